import Derived.Test.YtfkhblmeioiciaaGreatDoorSyZd
import Derived.DeepKeys
import Derived.ChangeSlices
import Derived.ChangeSame
import Derived.ChangeArms
import Derived.Deep.Slices
set_option linter.unusedVariables false
set_option linter.unusedSimpArgs false
namespace Go.Proofs.YtfkhblmeioiciaaGreatDoor
open Go.RowKit
def wd (cx:Cx) (s:St):ResultVar→Option (Bool×List C)
 | .tmp t=>match evS s.n s.tmps (.tmp t) with
   | some (.one c)=>some (false,[c])
   | some (.agg cs)=>some (true,cs)
   | _=>none
 | .cell t ty=>match evS s.n s.tmps (.tmp t),ar ty cx.ty with
   | some (.one (.ptr b o)),some i=>if i.agg then(rowS s.heap b o i.size).map (true,·) else(ldS s.heap b o).map (false,[·])
   | _,_=>none
def resL (cx:Cx) (s:St):List ResultVar→Option (List (Bool×List C))
 | []=>some []
 | r::l=>match wd cx s r,resL cx s l with
   | some x,some xs=>some (x::xs)
   | _,_=>none
def yA (vk:List VK) (heap:List Ob):CK→C→E→Option E
 | .int k,.int k' e,t=>if aX k k'&&e.rng vk k then some (.cons e t) else none
 | .bool,.bool e,t=>some (.consb e t)
 | .fn g,.fn g',t=>if Nat.beq g g' then some (.cons (.lit 0) t) else none
 | .nilf,.nilf,t=>some (.cons (.lit 0) t)
 | .sl ks ty,.sl id,t=>match rwS heap id with
   | some r=>if r.own&&(r.kd.fits r.ks&&(bB r.ks ks&&Nat.beq r.ty ty)) then some (.consl r.l t) else none
   | none=>none
 | .sl ks _,.nsl,t=>(match ks with | []=>none | _::_=>some (.consl .lnil t))
 | _,_,_=>none
def kn (vk:List VK) (heap:List Ob):List CK→List C→E→Option E
 | [],[],t=>some t
 | k::ks,c::cs,t=>(kn vk heap ks cs t).bind (yA vk heap k c)
 | _,_,_=>none
def ajn (heap:List Ob):CK→C→E→Option E
 | .int k,.int k' e,t=>if aX k k' then some (.cons e t) else none
 | .bool,.bool e,t=>some (.consb e t)
 | .fn g,.fn g',t=>if Nat.beq g g' then some (.cons (.lit 0) t) else none
 | .nilf,.nilf,t=>some (.cons (.lit 0) t)
 | .sl ks ty,.sl id,t=>match rwS heap id with
   | some r=>if r.own&&(r.kd.fits r.ks&&(bB r.ks ks&&Nat.beq r.ty ty)) then some (.consl r.l t) else none
   | none=>none
 | .sl ks _,.nsl,t=>(match ks with | []=>none | _::_=>some (.consl .lnil t))
 | _,_,_=>none
theorem afu {vk:List VK} {heap:List Ob} {k:CK} {c:C} {t e:E} (hc:c.rng vk=true) (h:ajn heap k c t=some e):yA vk heap k c t=some e:=by
 unfold ajn at h
 split at h
 ·rename_i k1 k2 x
  split at h
  ·rename_i h1
   obtain rfl:=av h1
   have h2:x.rng vk k1=true:=hc
   simp[yA,h1,h2]; exact Option.some.inj h
  ·cases h
 all_goals first | exact h | cases h
def wY (heap:List Ob):List CK→List C→E→Option E
 | [],[],t=>some t
 | k::ks,c::cs,t=>(wY heap ks cs t).bind (ajn heap k c)
 | _,_,_=>none
theorem sf {vk:List VK} {heap:List Ob}:∀{ks:List CK} {cs:List C} {t e:E},cs.all (C.rng vk)=true→wY heap ks cs t=some e→kn vk heap ks cs t=some e
 | [],[],_,_,_,h=>h
 | k::ks,c::cs,t,e,hr,h=>by
   simp only[List.all_cons,Bool.and_eq_true] at hr
   simp only[wY,Option.bind_eq_some_iff] at h
   obtain⟨e1,h1,h2⟩:=h
   simp only[kn,Option.bind_eq_some_iff]
   exact⟨e1,sf hr.2 h1,afu hr.1 h2⟩
def yz (vk:List VK) (heap:List Ob) (ks:List CK) (cs:List C) (t:E):Option E:=bif rngs vk cs vk 0 then wY heap ks cs t else none
theorem nP {vk:List VK} {heap:List Ob} {ks:List CK} {cs:List C} {t e:E} (h:yz vk heap ks cs t=some e):kn vk heap ks cs t=some e:=by
 unfold yz at h
 cases hr:rngs vk cs vk 0 with
 | false=>rw[hr] at h; cases h
 | true=>rw[hr] at h; exact sf (rngs_ok cs vk 0 rfl hr) h
def mK (vk:List VK) (heap:List Ob):List Sh→List (Bool×List C)→Option E
 | [],[]=>some .nil
 | .one k::ss,(false,[c])::l=>(mK vk heap ss l).bind (yz vk heap [k] [c])
 | .agg ks::ss,(true,cs)::l=>(mK vk heap ss l).bind (yz vk heap ks cs)
 | _,_=>none
def oidL:List CK→List C→List (Option Nat)
 | .sl _ _::ks,.sl id::cs=>some id::oidL ks cs
 | .sl _ _::ks,_::cs=>none::oidL ks cs
 | _::ks,_::cs=>oidL ks cs
 | _,_=>[]
def oids:List Sh→List (Bool×List C)→List (Option Nat)
 | s::ss,(_,cs)::l=>oidL s.cks cs++oids ss l
 | _,_=>[]
def ki:List (Option Nat)→Bool
 | []=>true
 | none::l=>ki l
 | some a::l=>(l.all fun x=>match x with | some b=>!Nat.beq a b | none=>true)&&ki l
def evAt (heap:List Ob) (id:Nat):Bool:=match rwS heap id with
 | some r=>r.kd.isEv
 | none=>false
def svOf (heap:List Ob) (j:J):Option Nat→SV
 | some id=>if evAt heap id then(j.s id).getD nilSV else {(j.s id).getD nilSV with z:=[]}
 | none=>nilSV
theorem aai (heap:List Ob) (j:J) (id:Nat):(svOf heap j (some id)).v=((j.s id).getD nilSV).v:=by
 cases h:evAt heap id<;>simp only[svOf,h]<;>rfl
def zj:List (Bool×List C)→V
 | [(true,cs)]=>.agg cs
 | [(false,[c])]=>.one c
 | xs=>.tup xs
def mE (dep:Nat):List (TT×Nat)→Option (TT×Nat)
 | []=>none
 | (t,n)::l=>if Nat.beq (cD l) dep then some (t,n) else mE dep l
def adX (tm:TM):List Nat→List V→Option TM
 | [],[]=>some tm
 | p::ps,v::vs=>if Nat.blt p tm.n then adX (tm.set p v) ps vs else none
 | _,_=>none
def rndK (cl:ClK) (cx:Cx) (fuel:Nat) (r:RfS) (id:Nat) (args:List V) (s:St) (kw:Kw) (k:V→St→Kw→Tr):Tr:=
 match s.heap[id]?,mE r.dep s.tmps.old with
 | some (.loop y),some (t,n)=>
   if Nat.beq n r.len&&(LS.same y.st .ready&&pE (s.heap.set id .gone)) then
    match adX ⟨t,n,(s.tmps.cur,s.tmps.n)::s.tmps.old⟩ r.ps.toList args with
    | some tm=>dn cl none cx fuel r.assign ⟨tm,s.heap⟩ kw fun sg s1 kw1=>match sg with
      | .normal=>(match s1.heap[id]? with
        | some (.loop y1)=>if LS.same y1.st .ready&&pE (s1.heap.set id .gone) then
         dn cl none cx fuel r.body ⟨s1.tmps,s1.heap.set id (.loop ⟨.busy,y1.pend⟩)⟩ kw1 fun sg s2 kw2=>match s2.heap[id]? with
          | some (.loop _)=>if(Nat.beq s2.tmps.old.length (s.tmps.old.length+1)&&Nat.beq s2.tmps.pop.n s.n)&&pE (s2.heap.set id .gone) then(match sg with
           | .normal=>k (.one (.bool (.tt true))) ⟨s2.tmps.pop,s2.heap.set id (.loop ⟨.ready,none⟩)⟩ kw2
           | sg=>k (.one (.bool (.tt false))) ⟨s2.tmps.pop,s2.heap.set id (.loop ⟨.done,some sg⟩)⟩ kw2) else .stuck 210
          | _=>.stuck 211
          else .stuck 212
        | _=>.stuck 213)
      | _=>.stuck 214
    | none=>.stuck 215
   else .stuck 216
 | _,_=>.stuck 217
def uK (fuel:Nat):Nat→Cx→Option RfS→ClK
 | 0,_,_,_,_,_,_,_=>.stuck 120
 | d+1,cx,ry,g,args,s,kw,k=>if Nat.blt g yB then(match ar g cx.fns with
   | none=>.stuck (200000+g)
   | some (fn,hints,cuts)=>match fn.body with
     | some c=>if fn.name== "runtime.NumGoroutine" then .stuck 121 else
       dn (uK fuel d {cx with hints:=hints,cuts:=cuts} ry) none {cx with hints:=hints,cuts:=cuts} fuel c ⟨s.tmps.push args (args.length+(fn.ntmps-args.length)),s.heap⟩ kw fun sg s' kw'=>match sg with
        | .exit _=>.stuck 80
        | _=>match resL cx s' fn.results.toList with
          | some xs=>if Nat.beq s'.tmps.old.length (s.tmps.old.length+1)&&Nat.beq s'.tmps.pop.n s.n then k (zj xs) ⟨s'.tmps.pop,s'.heap⟩ kw' else .stuck 129
          | none=>.stuck 81
     | none=>.stuck 122)
   else match ry with
    | some r=>rndK (uK fuel d {cx with hints:=r.hints,cuts:=r.cuts} (some r)) {cx with hints:=r.hints,cuts:=r.cuts} fuel r (g-yB) args s kw k
    | none=>.stuck 209
def funK (cx:Cx) (fuel:Nat) (fn:Func) (args:List V) (heap:List Ob) (kw:Kw):Tr:=
 match fn.body with
 | some c=>dn (uK fuel 12 cx none) (some fun r=>uK fuel 12 cx (some r)) cx fuel c ⟨TM.push args (args.length+(fn.ntmps-args.length)) ⟨.leaf (.one .undef),0,[]⟩,heap⟩ kw fun sg s kw=>match sg with
   | .exit _=>.stuck 80
   | _=>match resL cx s fn.results.toList with
     | some xs=>match mK kw.vk s.heap cx.res xs with
       | some e=>if ki (oids cx.res xs) then .leaf e else .stuck 83
       | none=>.stuck 84
     | none=>.stuck 81
 | none=>.stuck 82
section
variable {P:Program} {sp:Spec} {ρ:Env} {G:Env→E→Prop} {I:Nat→List Dt→Prop} {cx:Cx} {n:Nat} {X:List Value} {W0:Wb}
theorem rK:∀{l:List (Option Nat)},ki l=true→∀(i i':Nat) b,l[i]? =some (some b)→l[i']? =some (some b)→i=i'
 | [],_,i,i',b,h,_=>by simp at h
 | x::l,h,i,i',b,hi,hi'=>by
   have key:ki l=true∧∀b,x=some b→∀i:Nat,l[i]? ≠some (some b):=by
    cases x with
    | none=>exact⟨h,fun b hb=>by cases hb⟩
    | some a=>
      simp only[ki,Bool.and_eq_true] at h
      refine⟨h.2,fun b hb i hi=> ?_⟩
      cases hb
      have:=List.all_eq_true.1 h.1 _ (List.mem_of_getElem? hi)
      simp at this
   cases i with
   | zero=>
     simp at hi
     cases i' with
     | zero=>rfl
     | succ i'=>exact absurd (by simpa using hi') (key.2 b hi i')
   | succ i=>
     cases i' with
     | zero=>
       simp at hi'
       exact absurd (by simpa using hi) (key.2 b hi' i)
     | succ i'=>rw[rK key.1 i i' b (by simpa using hi) (by simpa using hi')]
theorem aeU {j:J} {a:Act} {w:World} {s:St} (h:Rel ρ n X W0 cx.fbs s.fs j a w) {b:Nat}:∀(m o:Nat),RdOk ρ j w (ldS s.heap) (cf b o m):=by
 intro m o p hp c hc
 rw[←uo] at hc
 obtain⟨k',v,h1,h2,h3,_⟩:=kH h (b:=p.1) (o:=p.2) (c:=c) hc
 exact⟨k',v,h1,h2,h3⟩
theorem fm {j:J}:∀{cs:List (Bool×List C)} {vs:List Value},aU ρ j cs=some vs→vs.length=cs.length
 | [],vs,h=>by cases h; rfl
 | c::cs,vs,h=>by
   simp only[aU] at h
   cases hc:den0 ρ j c with
   | none=>rw[hc] at h; cases h
   | some v=>
     cases hl:aU ρ j cs with
     | none=>rw[hc,hl] at h; cases h
     | some l=>rw[hc,hl] at h; cases h; simp[fm hl]
def iI (tmps:Array Value):ResultVar→Sem Value
 | .tmp t=>pure (tmps.getD t undef)
 | .cell a t=>do loadVar t (←asAddr (tmps.getD a undef))
theorem xZ (fn:Func) (tmps:Array Value):results fn tmps=(do let vs ←fn.results.mapM (iI tmps); pure (if h:vs.size=1 then vs[0] else .tuple vs)):=by
 unfold results
 congr 2
theorem ab4 (hT:∀t i,(t,i)∈cx.ty→TIok P t i) {j:J} {a:Act} {w:World} {s:St} (h:At cx ρ n X W0 s j a w) {r:ResultVar} {x:Bool×List C} (hx:wd cx s r=some x):
  ∃v,den0 ρ j x=some v∧(iI a.tmps r).run P w=.ok v w:=by
 have tmpv:∀t u,evS s.n s.tmps (.tmp t)=some u→u.den ρ j=some (a.tmps.getD t undef):=fun t u hu=>h.ev (x:=.tmp t) hu
 cases r with
 | tmp t=>
   simp only[wd] at hx
   split at hx
   ·rename_i c hc
    cases hx
    exact⟨_,tmpv t _ hc,by simp[iI]⟩
   ·rename_i cs hc
    cases hx
    exact⟨_,tmpv t _ hc,by simp[iI]⟩
   ·cases hx
 | cell t ty=>
   simp only[wd] at hx
   split at hx
   ·rename_i b o i hb hi
    obtain⟨kk,hk,hp⟩:=kh (tmpv t _ hb)
    have ht:=hT _ _ (ak hi)
    split at hx
    ·rename_i hagg
     rw[Option.map_eq_some_iff] at hx
     obtain⟨cs,hcs,rfl⟩:=hx
     obtain⟨vs,h1,h2⟩:=cb (P:=P) hk i.size o cs (abX _ _ _ _ hcs) w (aeU h.rel i.size o) ⟨kk,o,none⟩ 0 #[] (fun m=>by rw[bG]; simp)
     refine⟨.agg vs.toArray,by simp[den0,h1],?_⟩
     simp[iI,hp,asAddr,Sem.run_bind,loadVar,ht.agg,hagg,ht.size,loadCells,h2]
    ·rename_i hagg
     rw[Option.map_eq_some_iff] at hx
     obtain⟨c,hc,rfl⟩:=hx
     rw[←uo] at hc
     obtain⟨k',v,h1,h2,h3,_⟩:=kH h.rel (b:=b) (o:=o) (c:=c) hc
     rw[hk] at h1; cases h1
     have hagg':i.agg=false:=by simpa using hagg
     refine⟨v,h2,?_⟩
     simp[iI,hp,asAddr,Sem.run_bind,loadVar,ht.agg,hagg',load,Sem.run,h3]
   ·cases hx
theorem ab5 (hT:∀t i,(t,i)∈cx.ty→TIok P t i) {j:J} {a:Act} {w:World} {s:St} (h:At cx ρ n X W0 s j a w):∀(l:List ResultVar) (xs:List (Bool×List C)),resL cx s l=some xs→
  ∃vs,aU ρ j xs=some vs∧vs.length=l.length∧(l.mapM (iI a.tmps)).run P w=.ok vs w
 | [],xs,hx=>by cases hx; exact⟨[],rfl,rfl,by simp⟩
 | r::l,xs,hx=>by
   simp only[resL] at hx
   split at hx
   ·rename_i x ys h1 h2
    cases hx
    obtain⟨v,h3,h4⟩:=ab4 hT h h1
    obtain⟨vs,h5,h6,h7⟩:=ab5 hT h l ys h2
    refine⟨v::vs,by simp[aU,h3,h5],by simp[h6],?_⟩
    rw[List.mapM_cons]
    simp only[Sem.run_bind]
    rw[h4]
    simp only[Result.andThen_ok,h7]
    simp
   ·cases hx
theorem nA (hT:∀t i,(t,i)∈cx.ty→TIok P t i) {j:J} {a:Act} {w:World} {s:St} (h:At cx ρ n X W0 s j a w) {fn:Func} {xs:List (Bool×List C)} (hx:resL cx s fn.results.toList=some xs):
  ∃vs,aU ρ j xs=some vs∧(results fn a.tmps).run P w=.ok (if h:vs.toArray.size=1 then vs.toArray[0] else .tuple vs.toArray) w:=by
 obtain⟨vs,h1,h2,h3⟩:=ab5 hT h _ xs hx
 refine⟨vs,h1,?_⟩
 rw[xZ,Sem.run_bind,Array.mapM_eq_mapM_toList]
 rw[show(List.toArray <$> List.mapM (iI a.tmps) fn.results.toList:Sem (Array Value))=(do let l ←List.mapM (iI a.tmps) fn.results.toList; pure l.toArray) from rfl]
 simp[Sem.run_bind,h3]
theorem cF {α:Type} {ds:List α} {n:Nat} {x:α} {r:List α} (h:ds.drop n=x::r):ds[n]? =some x∧ds.drop (n+1)=r:=by
 have h1:ds[n]? =some x:=by
  have:=congrArg (·[0]?) h
  simpa using this
 refine⟨h1,?_⟩
 have:=congrArg List.tail h
 simpa using this
structure Res1 (hp:List Ob) (ρ:Env) (j:J) (w0 w:World) (ks:List CK) (ids:List (Option Nat)) (vs:List Value) (e t:E):Prop where
 len:ids.length=(ks.filter CK.isSl).length
 rng:dU ks (e.D ρ)
 at':∀ds n,ds.drop n=e.D ρ→ds.drop (n+ks.length)=t.D ρ∧∀(ρ':Env) v0,eqs ρ' ds v0 n ks→
  (∀id (j':J),(∀(i:Nat) u,ids[i]? =some u→j'.s (id+i)=some (svOf hp j u))→denL ρ' j' (ax v0 n id ks)=some vs)∧
  (∀(i:Nat) u r,ids[i]? =some u→(aP v0 n ks)[i]? =some r→RowOk ρ' w0.heap.size w (svOf hp j u) r)
theorem ajr {hp:List Ob} {ρ:Env} {j:J} {w0 w:World} {t:E}:Res1 hp ρ j w0 w [] [] [] t t:=
 ⟨rfl,trivial,fun ds n h=>⟨by simpa using h,fun ρ' v0 he=>⟨fun id j' h=>rfl,fun i u r h=>by simp at h⟩⟩⟩
theorem adc {ds:List Dt} {n:Nat} {x:Int} (h:ds[n]? =some (.z x)):dI ds n=x:=by simp[dI,h]
theorem afy {ds:List Dt} {n:Nat} {x:List (List Int)} (h:ds[n]? =some (.l x)):dL ds n=x:=by simp[dL,h]
theorem agD (b:Bool):(b2i b==1)=b:=by cases b<;>rfl
theorem aft {vk:List VK} (hv:Vk ρ vk) {s:St} {j:J} {a:Act} {w:World} (h:Rel ρ n X W0 cx.fbs s.fs j a w) {k:CK} {c:C} {t e:E} (he:yA vk s.heap k c t=some e) {v:Value} (hd:c.den ρ j=some v) {ks:List CK} {ids:List (Option Nat)} {vs:List Value} {t0:E} (hr:Res1 s.heap ρ j W0.w w ks ids vs t t0) {cs:List C} (hids:ids=oidL ks cs):
  Res1 s.heap ρ j W0.w w (k::ks) (oidL (k::ks) (c::cs)) (v::vs) e t0:=by
 subst hids
 have plus:∀m:Nat,m+1+ks.length=m+(k::ks).length:=fun m=>by simp; omega
 unfold yA at he
 split at he
 ·rename_i k k' x
  split at he
  ·rename_i hk
   cases he
   simp only[Bool.and_eq_true] at hk
   have:=av hk.1
   subst this
   cases hd
   refine⟨hr.len,⟨E.rng_ok hv x hk.2,hr.rng⟩,fun ds n' h1=> ?_⟩
   obtain⟨h2,h3⟩:=cF h1
   obtain⟨h4,h5⟩:=hr.at' ds (n'+1) h3
   refine⟨by rw[←plus]; exact h4,fun ρ' v0 heq=> ?_⟩
   obtain⟨h6,h7⟩:=h5 ρ' v0 heq.2
   refine⟨fun id j' hj=> ?_,h7⟩
   simp only[ax,denL,C.den,E.I,h6 id j' hj,heq.1,adc h2]
  ·cases he
 ·rename_i x
  cases he
  cases hd
  refine⟨hr.len,hr.rng,fun ds n' h1=> ?_⟩
  obtain⟨h2,h3⟩:=cF h1
  obtain⟨h4,h5⟩:=hr.at' ds (n'+1) h3
  refine⟨by rw[←plus]; exact h4,fun ρ' v0 heq=> ?_⟩
  obtain⟨h6,h7⟩:=h5 ρ' v0 heq.2
  refine⟨fun id j' hj=> ?_,h7⟩
  have h8:ρ'.b (v0+n')=x.B ρ:=by rw[heq.1]; simp only[dB,adc h2,agD]
  simp only[ax,denL,C.den,E.B,h6 id j' hj,h8]
 ·rename_i g g'
  split at he
  ·rename_i hg
   cases he
   have:=Nat.eq_of_beq_eq_true hg
   subst this
   cases hd
   refine⟨hr.len,hr.rng,fun ds n' h1=> ?_⟩
   obtain⟨h2,h3⟩:=cF h1
   obtain⟨h4,h5⟩:=hr.at' ds (n'+1) h3
   refine⟨by rw[←plus]; exact h4,fun ρ' v0 heq=> ?_⟩
   obtain⟨h6,h7⟩:=h5 ρ' v0 heq
   refine⟨fun id j' hj=> ?_,h7⟩
   simp only[ax,denL,C.den,h6 id j' hj]
  ·cases he
 ·cases he
  cases hd
  refine⟨hr.len,hr.rng,fun ds n' h1=> ?_⟩
  obtain⟨h2,h3⟩:=cF h1
  obtain⟨h4,h5⟩:=hr.at' ds (n'+1) h3
  refine⟨by rw[←plus]; exact h4,fun ρ' v0 heq=> ?_⟩
  obtain⟨h6,h7⟩:=h5 ρ' v0 heq
  refine⟨fun id j' hj=> ?_,h7⟩
  simp only[ax,denL,C.den,h6 id j' hj]
 ·rename_i ks0 ty id0
  split at he
  ·rename_i r hrw
   split at he
   ·rename_i hq
    cases he
    simp only[Bool.and_eq_true] at hq
    obtain⟨ho,hsl,hk,ht⟩:=hq
    have hrw0:=hrw
    rw[←jy] at hrw
    obtain⟨sv,h1,h2⟩:=h.row id0 r (eV hrw)
    simp only[C.den,h1,Option.map_some,Option.some.injEq] at hd
    subst hd
    have e1:=bA hk
    have e2:=Nat.eq_of_beq_eq_true ht
    have e3:=RK.fits_eq hsl
    subst e1 e2
    have hsv:(svOf s.heap j (some id0)).v=sv.v:=by rw[aai,h1]; rfl
    refine⟨by simp[oidL,List.filter,CK.isSl,hr.len],⟨h2.rows,hr.rng⟩,fun ds n' h3=> ?_⟩
    obtain⟨h4,h5⟩:=cF h3
    obtain⟨h6,h7⟩:=hr.at' ds (n'+1) h5
    refine⟨by rw[←plus]; exact h6,fun ρ' v0 heq=> ?_⟩
    obtain⟨h8,h9⟩:=h7 ρ' v0 heq.2
    refine⟨fun id j' hj=> ?_,fun i u q hi hq'=> ?_⟩
    ·have h10:=hj 0 (some id0) rfl
     rw[Nat.add_zero] at h10
     have h11:=h8 (id+1) j' (fun i u hi=>by
      have:=hj (i+1) u (by simpa[oidL] using hi)
      rwa [show id+(i+1)=id+1+i by omega] at this)
     simp only[ax,denL,C.den,h10,Option.map_some,h11,hsv]
    ·cases i with
     | zero=>
       simp only[oidL,List.getElem?_cons_zero,Option.some.injEq] at hi
       simp only[aP,List.getElem?_cons_zero,Option.some.injEq] at hq'
       subst hi hq'
       have hR:(E.lvar (v0+n')).R ρ'=r.l.R ρ:=by
        simp only[E.R]
        rw[heq.1,afy h4]
       rcases bk r.ks with⟨_,g2⟩ | ⟨_,g2⟩
       ·have hea:evAt s.heap id0=true:=by simp[evAt,hrw0,e3,g2,RK.isEv]
        have hev:svOf s.heap j (some id0)=sv:=by simp[svOf,hea,h1]
        rw[hev]
        exact RowOk.swap (q:=r) rfl rfl ho.symm hR (by rw[e3,g2]; trivial) h2
       ·have hea:evAt s.heap id0=false:=by simp[evAt,hrw0,e3,g2,RK.isEv]
        have hev:svOf s.heap j (some id0)={sv with z:=[]}:=by simp[svOf,hea,h1]
        rw[hev]
        have h2:=h2.1 (e3.trans g2)
        refine RowOk.mk_own g2 (by rw[hR]; exact h2.n) (by rw[hR]; exact h2.rows) h2.pos ?_
        rw[hR]
        exact h2.own ho
     | succ i=>exact h9 i u q (by simpa[oidL] using hi) (by simpa[aP] using hq')
   ·cases he
  ·cases he
 ·rename_i ks0 ty
  split at he
  ·cases he
  ·rename_i k0 ks1
   cases he
   cases hd
   have hrows:RowsIn (k0::ks1) []:=⟨fun r hr=>(by cases hr),by simp⟩
   refine⟨by simp[oidL,List.filter,CK.isSl,hr.len],⟨hrows,hr.rng⟩,fun ds n' h3=> ?_⟩
   obtain⟨h4,h5⟩:=cF h3
   obtain⟨h6,h7⟩:=hr.at' ds (n'+1) h5
   refine⟨by rw[←plus]; exact h6,fun ρ' v0 heq=> ?_⟩
   obtain⟨h8,h9⟩:=h7 ρ' v0 heq.2
   refine⟨fun id j' hj=> ?_,fun i u q hi hq'=> ?_⟩
   ·have h10:=hj 0 none rfl
    rw[Nat.add_zero] at h10
    have h11:=h8 (id+1) j' (fun i u hi=>by
     have:=hj (i+1) u (by simpa[oidL] using hi)
     rwa [show id+(i+1)=id+1+i by omega] at this)
    simp only[ax,denL,C.den,h10,Option.map_some,h11]
    rfl
   ·cases i with
    | zero=>
      simp only[oidL,List.getElem?_cons_zero,Option.some.injEq] at hi
      simp only[aP,List.getElem?_cons_zero,Option.some.injEq] at hq'
      subst hi hq'
      have hR:(E.lvar (v0+n')).R ρ'=[]:=by
       simp only[E.R]
       rw[heq.1,afy h4]
       rfl
      rcases bk (k0::ks1) with⟨g1,g2⟩ | ⟨_,g2⟩
      ·exact EvOk.row ⟨g1,by rw[hR]; rfl,by rw[hR]; exact hrows,fun k hk=>absurd hk gN,fun _ p hp=>(by cases hp),[],by rw[hR]; rfl,fun _=>by rw[hR]; exact World.ownsRow_nil _ _ _ _,by rw[hR]; exact RdRow.nil,fun i row x hr=>by rw[hR] at hr; simp at hr⟩ g2
      ·exact RowOk.mk_own g2 (by rw[hR]; rfl) (by rw[hR]; exact hrows) (by simp) (by rw[hR]; exact World.ownsRow_nil _ _ _ _)
    | succ i=>exact h9 i u q (by simpa[oidL] using hi) (by simpa[aP] using hq')
 ·cases he
theorem se {vk:List VK} (hv:Vk ρ vk) {s:St} {j:J} {a:Act} {w:World} (h:Rel ρ n X W0 cx.fbs s.fs j a w):∀{ks:List CK} {cs:List C} {t e:E},kn vk s.heap ks cs t=some e→∀{vs:List Value},denL ρ j cs=some vs→Res1 s.heap ρ j W0.w w ks (oidL ks cs) vs e t
 | [],[],t,e,he,vs,hd=>by cases he; cases hd; exact ajr
 | k::ks,c::cs,t,e,he,vs,hd=>by
   simp only[kn,Option.bind_eq_some_iff] at he
   obtain⟨e',h1,h2⟩:=he
   simp only[denL] at hd
   cases hc:c.den ρ j with
   | none=>rw[hc] at hd; cases hd
   | some v=>
     cases hl:denL ρ j cs with
     | none=>rw[hc,hl] at hd; cases hd
     | some l=>
       rw[hc,hl] at hd; cases hd
       exact aft hv h h2 hc (se hv h h1 hl) rfl
theorem wX {vk:List VK} (hv:Vk ρ vk) {s:St} {j:J} {a:Act} {w:World} (h:Rel ρ n X W0 cx.fbs s.fs j a w) {ks:List CK} {cs:List C} {t e:E} (he:yz vk s.heap ks cs t=some e) {vs:List Value} (hd:denL ρ j cs=some vs):Res1 s.heap ρ j W0.w w ks (oidL ks cs) vs e t:=se hv h (nP he) hd
structure Res2 (hp:List Ob) (ρ:Env) (j:J) (w0 w:World) (ss:List Sh) (ids:List (Option Nat)) (vs:List Value) (e:E):Prop where
 len:ids.length=((ss.flatMap (·.cks)).filter CK.isSl).length
 rng:dU (ss.flatMap (·.cks)) (e.D ρ)
 at':∀ds n,ds.drop n=e.D ρ→∀(ρ':Env) v0,eqs ρ' ds v0 n (ss.flatMap (·.cks))→
  (∀id (j':J),(∀(i:Nat) u,ids[i]? =some u→j'.s (id+i)=some (svOf hp j u))→aU ρ' j' (aQ v0 n id ss)=some vs)∧
  (∀(i:Nat) u r,ids[i]? =some u→(aP v0 n (ss.flatMap (·.cks)))[i]? =some r→RowOk ρ' w0.heap.size w (svOf hp j u) r)
theorem ez {ρ:Env} {ds:List Dt} {v0:Nat}:∀(ks ks':List CK) (n:Nat),eqs ρ ds v0 n (ks++ks')→eqs ρ ds v0 n ks∧eqs ρ ds v0 (n+ks.length) ks'
 | [],ks',n,h=>⟨trivial,h⟩
 | k::ks,ks',n,h=>by
   have plus:n+1+ks.length=n+(k::ks).length:=by simp; omega
   cases k
   case int=>exact⟨⟨h.1,(ez ks ks' (n+1) h.2).1⟩,by rw[←plus]; exact(ez ks ks' (n+1) h.2).2⟩
   case bool=>exact⟨⟨h.1,(ez ks ks' (n+1) h.2).1⟩,by rw[←plus]; exact(ez ks ks' (n+1) h.2).2⟩
   case sl=>exact⟨⟨h.1,(ez ks ks' (n+1) h.2).1⟩,by rw[←plus]; exact(ez ks ks' (n+1) h.2).2⟩
   all_goals exact⟨(ez ks ks' (n+1) h).1,by rw[←plus]; exact(ez ks ks' (n+1) h).2⟩
theorem iJ:∀{ks ks':List CK} {ds:List Dt},dU ks ds→dU ks' (ds.drop ks.length)→dU (ks++ks') ds
 | [],ks',ds,_,h=>by simpa using h
 | k::ks,ks',ds,h,h'=>by
   cases ds with
   | nil=>cases k<;>exact h.elim
   | cons d ds=>
     cases k
     case int=>cases d<;>first | exact⟨h.1,iJ h.2 h'⟩ | exact h.elim
     case sl=>cases d<;>first | exact⟨h.1,iJ h.2 h'⟩ | exact h.elim
     all_goals exact iJ (ks:=ks) (ks':=ks') (ds:=ds) h h'
theorem mm {v0:Nat}:∀(ks ks':List CK) (n:Nat),aP v0 n (ks++ks')=aP v0 n ks++aP v0 (n+ks.length) ks'
 | [],ks',n=>rfl
 | k::ks,ks',n=>by
   have plus:n+1+ks.length=n+(k::ks).length:=by simp; omega
   cases k<;>simp only[List.cons_append,aP,mm ks ks' (n+1),plus]
theorem ew {v0:Nat}:∀(ks:List CK) (n:Nat),(aP v0 n ks).length=(ks.filter CK.isSl).length
 | [],n=>rfl
 | k::ks,n=>by cases k<;>simp[aP,List.filter,CK.isSl,ew ks (n+1)]
theorem Res2.cons {hp:List Ob} {j:J} {w0 w:World} {k:Sh} {ss:List Sh} {ids ids':List (Option Nat)} {us vs:List Value} {e t:E} {v:Value} (h1:Res1 hp ρ j w0 w k.cks ids us e t) (h2:Res2 hp ρ j w0 w ss ids' vs t)
  (hq:∀v0 n id,∃p,aQ v0 n id (k::ss)=p::aQ v0 (n+k.cks.length) (id+(k.cks.filter CK.isSl).length) ss∧∀(ρ':Env) (j':J),denL ρ' j' (ax v0 n id k.cks)=some us→den0 ρ' j' p=some v):Res2 hp ρ j w0 w (k::ss) (ids++ids') (v::vs) e:=by
 refine⟨by rw[List.flatMap_cons,List.filter_append,List.length_append,List.length_append,h1.len,h2.len],?_,fun ds n' hd ρ' v0 he=> ?_⟩
 ·rw[List.flatMap_cons]
  have h3:=(h1.at' (e.D ρ) 0 rfl).1
  rw[Nat.zero_add] at h3
  exact iJ h1.rng (by rw[h3]; exact h2.rng)
 ·rw[List.flatMap_cons] at he
  obtain⟨e1,e2⟩:=ez _ _ _ he
  obtain⟨d1,d2⟩:=h1.at' ds n' hd
  obtain⟨a1,a2⟩:=d2 ρ' v0 e1
  obtain⟨b1,b2⟩:=h2.at' ds (n'+k.cks.length) d1 ρ' v0 e2
  refine⟨fun id j' hj=> ?_,fun i u r hi hr=> ?_⟩
  ·obtain⟨p,p1,p2⟩:=hq v0 n' id
   rw[p1]
   have q1:=p2 ρ' j' (a1 id j' (fun i u hi=>hj i u (by
    rw[List.getElem?_append_left (List.getElem?_eq_some_iff.1 hi).1]; exact hi)))
   have q2:=b1 (id+(k.cks.filter CK.isSl).length) j' (fun i u hi=>by
    have:=hj (ids.length+i) u (by rw[List.getElem?_append_right (by omega),Nat.add_sub_cancel_left]; exact hi)
    rw[h1.len] at this
    rwa [Nat.add_assoc])
   simp only[aU,q1,q2]
  ·rw[List.flatMap_cons,mm] at hr
   rcases Nat.lt_or_ge i ids.length with hlt | hge
   ·rw[List.getElem?_append_left hlt] at hi
    rw[List.getElem?_append_left (by rw[ew,←h1.len]; exact hlt)] at hr
    exact a2 i u r hi hr
   ·rw[List.getElem?_append_right hge] at hi
    rw[List.getElem?_append_right (by rw[ew,←h1.len]; exact hge),ew,←h1.len] at hr
    exact b2 _ u r hi hr
theorem pR {vk:List VK} (hv:Vk ρ vk) {s:St} {j:J} {a:Act} {w:World} (h:Rel ρ n X W0 cx.fbs s.fs j a w):∀{ss:List Sh} {xs:List (Bool×List C)} {e:E},mK vk s.heap ss xs=some e→∀{vs:List Value},aU ρ j xs=some vs→Res2 s.heap ρ j W0.w w ss (oids ss xs) vs e
 | ss,xs,e,he,vs,hd=>by
   unfold mK at he
   split at he
   ·cases he; cases hd
    exact⟨rfl,trivial,fun ds n h ρ' v0 he=>⟨fun id j' h=>rfl,fun i u r h=>by simp[oids] at h⟩⟩
   ·rename_i k ss c l
    rw[Option.bind_eq_some_iff] at he
    obtain⟨e',h1,h2⟩:=he
    simp only[aU] at hd
    cases hc:den0 ρ j (false,[c]) with
    | none=>rw[hc] at hd; cases hd
    | some v=>
      cases hl:aU ρ j l with
      | none=>rw[hc,hl] at hd; cases hd
      | some us=>
        rw[hc,hl] at hd; cases hd
        have hc':c.den ρ j=some v:=hc
        refine Res2.cons (k:=.one k) (wX hv h h2 (vs:=[v]) (by simp[denL,hc'])) (pR hv h h1 hl) (fun v0 n id=> ?_)
        refine⟨(false,ax v0 n id [k]),?_,fun ρ' j' hh=> ?_⟩
        ·simp only[aQ,Sh.cks,List.length_singleton]
         congr 2
         cases k<;>simp[List.filter,CK.isSl]
        ·simp only[Sh.cks] at hh
         have:∃c',ax v0 n id [k]=[c']:=by cases k<;>exact⟨_,rfl⟩
         obtain⟨c',hc2⟩:=this
         rw[hc2] at hh ⊢
         simp only[denL] at hh
         simp only[den0]
         cases hx:c'.den ρ' j' with
         | none=>rw[hx] at hh; cases hh
         | some y=>rw[hx] at hh; simpa using hh
   ·rename_i ks ss cs l
    rw[Option.bind_eq_some_iff] at he
    obtain⟨e',h1,h2⟩:=he
    simp only[aU] at hd
    cases hc:den0 ρ j (true,cs) with
    | none=>rw[hc] at hd; cases hd
    | some v=>
      cases hl:aU ρ j l with
      | none=>rw[hc,hl] at hd; cases hd
      | some us=>
        rw[hc,hl] at hd; cases hd
        simp only[den0,Option.map_eq_some_iff] at hc
        obtain⟨ws,hws,rfl⟩:=hc
        refine Res2.cons (k:=.agg ks) (wX hv h h2 hws) (pR hv h h1 hl) (fun v0 n id=> ?_)
        exact⟨(true,ax v0 n id ks),rfl,fun ρ' j' hh=>by simp[den0,Sh.cks] at hh ⊢; exact hh⟩
   ·cases he
theorem ab3 {ρ:Env} {j:J} {res:List Sh} {tup:Bool} {v0 nid:Nat} {vs:List Value} (ht:Nat.beq res.length 1 = !tup) (hl:vs.length=res.length) (h:aU ρ j (aQ v0 0 nid res)=some vs):
  (dT res tup v0 nid).den ρ j=some (if h:vs.toArray.size=1 then vs.toArray[0] else .tuple vs.toArray):=by
 cases tup with
 | true=>
   have hne:¬vs.length=1:=fun e=>by rw[hl] at e; simp[e] at ht
   simp[dT,V.den,h,hne]
 | false=>
   have h1:res.length=1:=Nat.eq_of_beq_eq_true (by simpa using ht)
   match res,vs,h1,hl,h with
   | [r],[v],_,_,h=>
     unfold dT
     rw[if_neg (by simp)]
     cases r with
     | one k=>
       have:∃c',ax v0 0 nid [k]=[c']:=by cases k<;>exact⟨_,rfl⟩
       obtain⟨c',hc⟩:=this
       simp only[aQ,hc,aU,den0] at h ⊢
       cases hx:c'.den ρ j with
       | none=>rw[hx] at h; cases h
       | some y=>rw[hx] at h; cases h; simpa[V.den] using hx
     | agg ks=>
       simp only[aQ,aU,den0] at h ⊢
       cases hx:denL ρ j (ax v0 0 nid ks) with
       | none=>rw[hx] at h; cases h
       | some y=>rw[hx] at h; cases h; simp[V.den,hx]
     | ptr ks=>
       simp only[aQ,aU,den0,denL,C.den] at h ⊢
       cases h
       simp[V.den,denL,C.den]
theorem Res2.ret {hp:List Ob} {j:J} {w0 w:World} {ss:List Sh} {tup:Bool} {ids:List (Option Nat)} {vs:List Value} {e:E} (h:Res2 hp ρ j w0 w ss ids vs e) (ht:Nat.beq ss.length 1 = !tup) (hl:vs.length=ss.length) (hx:Ext w0 w)
  (hd:∀(i i':Nat) a b k,ids[i]? =some a→ids[i']? =some b→(svOf hp j a).v.ownBlock=some k→(svOf hp j b).v.ownBlock=some k→i=i') (hz:∀a∈ids,NewZ w0 w (ids.map (svOf hp j)) (svOf hp j a)):RetOk ss tup w0 w (e.D ρ) (if h:vs.toArray.size=1 then vs.toArray[0] else .tuple vs.toArray):=by
 have at0:=fun ρ' v0 he=>h.at' (e.D ρ) 0 rfl ρ' v0 he
 refine⟨hx,h.rng,ids.map (svOf hp j),by rw[List.length_map,h.len],fun ρ' v0 nid j' he hs=> ?_,fun ρ' v0 he i u r hu hr=> ?_,fun i i' u u' k hu hu' hk hk'=> ?_,fun u hu=> ?_⟩
 ·exact ab3 ht hl ((at0 ρ' v0 he).1 nid j' (fun i u hi=>hs i _ (by rw[List.getElem?_map,hi]; rfl)))
 ·rw[List.getElem?_map,Option.map_eq_some_iff] at hu
  obtain⟨a,ha,rfl⟩:=hu
  exact(at0 ρ' v0 he).2 i a r ha hr
 ·rw[List.getElem?_map,Option.map_eq_some_iff] at hu hu'
  obtain⟨a,ha,rfl⟩:=hu
  obtain⟨b,hb,rfl⟩:=hu'
  exact hd i i' a b k ha hb hk hk'
 ·obtain⟨a,ha,rfl⟩:=List.mem_map.1 hu
  exact hz a ha
def clz (w:World) (k:Nat):Option Obj:=match w.heap[k]? with
 | some o=>if isCl o then some o else none
 | none=>none
theorem pW {w:World} {k:Nat} {o:Obj}:clz w k=some o↔w.heap[k]? =some o∧isCl o=true:=by
 unfold clz
 cases h:w.heap[k]? with
 | none=>simp
 | some o'=>
   cases hc:isCl o' with
   | true=>simp[hc]; intro e; rw[←e]; exact hc
   | false=>simp[hc]; intro e; rw[←e]; exact hc
structure Start (cx:Cx) (ρ:Env) (heap:List Ob) (j:J) (w:World):Prop where
 row:∀(b:Nat) ob,heap[b]? =some ob→∃r s,ob=.row r∧r.own=false∧j.s b=some s∧RowOk ρ w.heap.size w s r
 nos:∀b,heap.length≤b→j.s b=none
 nob:∀b,j.b b=none
 gh:j.g=⟨fun _=>none,clz w⟩
 zz:∀b s,j.s b=some s→∀p∈s.z,w.heap[p.1]? =some p.2∧isCl p.2=true
 fb:∀b cs,cx.fbs b=some cs→∃k vs,j.f b=some k∧k<w.heap.size∧denL ρ j cs=some vs∧∀(o:Nat) v,vs[o]? =some v→eO cs o=true→w.cell? ⟨k,o,none⟩=some v
theorem rI {vk:List VK} {heap:List Ob}:∀{ks:List CK} {cs:List C} {t e:E},kn vk heap ks cs t=some e→∀(i id:Nat),(oidL ks cs)[i]? =some (some id)→∃r,rwS heap id=some r∧r.own=true
 | [],[],t,e,_,i,id,hi=>by simp[oidL] at hi
 | k::ks,c::cs,t,e,he,i,id,hi=>by
   simp only[kn,Option.bind_eq_some_iff] at he
   obtain⟨e',h1,h2⟩:=he
   have ih:=rI h1
   unfold yA at h2
   split at h2
   ·exact ih i id hi
   ·exact ih i id hi
   ·exact ih i id hi
   ·exact ih i id hi
   ·rename_i id0
    split at h2
    ·rename_i r hr
     split at h2
     ·rename_i hq
      simp only[Bool.and_eq_true] at hq
      cases i with
      | zero=>
        simp only[oidL,List.getElem?_cons_zero,Option.some.injEq] at hi
        subst hi
        exact⟨r,hr,hq.1⟩
      | succ i=>exact ih i id (by simpa[oidL] using hi)
     ·cases h2
    ·cases h2
   ·cases i with
    | zero=>simp[oidL] at hi
    | succ i=>exact ih i id (by simpa[oidL] using hi)
   ·cases h2
theorem wy {vk:List VK} {heap:List Ob} {ks:List CK} {cs:List C} {t e:E} (he:yz vk heap ks cs t=some e):∀(i id:Nat),(oidL ks cs)[i]? =some (some id)→∃r,rwS heap id=some r∧r.own=true:=rI (nP he)
theorem fF {vk:List VK} {heap:List Ob}:∀{ss:List Sh} {xs:List (Bool×List C)} {e:E},mK vk heap ss xs=some e→∀(i id:Nat),(oids ss xs)[i]? =some (some id)→∃r,rwS heap id=some r∧r.own=true
 | ss,xs,e,he,i,id,hi=>by
   unfold mK at he
   split at he
   ·simp[oids] at hi
   ·rename_i k ss c l
    rw[Option.bind_eq_some_iff] at he
    obtain⟨e',h1,h2⟩:=he
    have hi':(oidL [k] [c]++oids ss l)[i]? =some (some id):=hi
    rcases Nat.lt_or_ge i (oidL [k] [c]).length with hlt | hge
    ·rw[List.getElem?_append_left hlt] at hi'
     exact wy h2 i id hi'
    ·rw[List.getElem?_append_right hge] at hi'
     exact fF h1 _ id hi'
   ·rename_i ks ss cs l
    rw[Option.bind_eq_some_iff] at he
    obtain⟨e',h1,h2⟩:=he
    have hi':(oidL ks cs++oids ss l)[i]? =some (some id):=hi
    rcases Nat.lt_or_ge i (oidL ks cs).length with hlt | hge
    ·rw[List.getElem?_append_left hlt] at hi'
     exact wy h2 i id hi'
    ·rw[List.getElem?_append_right hge] at hi'
     exact fF h1 _ id hi'
   ·cases he
theorem mJ {vk:List VK} {heap:List Ob}:∀{ss:List Sh} {xs:List (Bool×List C)} {e:E},mK vk heap ss xs=some e→xs.length=ss.length
 | ss,xs,e,he=>by
   unfold mK at he
   split at he
   ·rfl
   ·rw[Option.bind_eq_some_iff] at he
    obtain⟨e',h1,_⟩:=he
    simp[mJ h1]
   ·rw[Option.bind_eq_some_iff] at he
    obtain⟨e',h1,_⟩:=he
    simp[mJ h1]
   ·cases he
theorem cB {P:Program} {f:FuncId} {fn:Func} (hf:P.funcs[f]? =some fn) (hname:(fn.name== "runtime.NumGoroutine")=false) (hb:fn.body.isNone=false) (args:Array Value) (w:World):(callFunc f args).run P w=.ok (.enter f args) w:=by
 have h1:fn.name≠ "runtime.NumGoroutine" :=by simpa using hname
 cases hc:fn.body with
 | none=>rw[hc] at hb; cases hb
 | some c=>simp[callFunc,hf,h1,hc,program,Sem.run_bind,Sem.run]
theorem zi {j:J} {xs:List (Bool×List C)} {vs:List Value} (h:aU ρ j xs=some vs):(zj xs).den ρ j=some (if h:vs.toArray.size=1 then vs.toArray[0] else .tuple vs.toArray):=by
 have tup:xs.length≠1→(V.tup xs).den ρ j=some (if h:vs.toArray.size=1 then vs.toArray[0] else .tuple vs.toArray):=fun hn=>by
  have hl:=fm h
  rw[dif_neg (by simpa[hl] using hn)]
  simp[V.den,h]
 match xs,h with
 | [],h=>exact tup (by simp)
 | [(true,cs)],h=>
   simp only[aU] at h
   cases hc:den0 ρ j (true,cs) with
   | none=>rw[hc] at h; cases h
   | some v=>rw[hc] at h; cases h; exact hc
 | [(false,[c])],h=>
   simp only[aU] at h
   cases hc:den0 ρ j (false,[c]) with
   | none=>rw[hc] at h; cases h
   | some v=>rw[hc] at h; cases h; exact hc
 | [(false,[])],h=>simp[aU,den0] at h
 | [(false,_::_::_)],h=>simp[aU,den0] at h
 | x::y::l,h=>
   have e:zj (x::y::l)=.tup (x::y::l):=by rcases x with⟨_ | _,_ | ⟨_,_ | ⟨_,_⟩⟩⟩<;>rfl
   rw[e]
   exact tup (by simp)
theorem agc {ρ':Env} {n2:Nat} {X:List Value} {W0:Wb} {s s':St} {j j':J} {a a':Act} {w w':World} (hr:At cx ρ n X W0 s j a w) (hr':At cx ρ' n2 (a.tmps.toList++X) {W0 with top:=false} s' j' a' w')
  (hck:(Nat.beq s'.tmps.old.length (s.tmps.old.length+1)&&Nat.beq s'.tmps.pop.n s.n)=true):At cx ρ' n X W0 ⟨s'.tmps.pop,s'.heap⟩ j' a w':=by
 rw[Bool.and_eq_true] at hck
 have hasz:=hr.rel.size
 have hold:s'.tmps.old≠[]:=fun e=>by
  have:=Nat.eq_of_beq_eq_true hck.1
  rw[e] at this
  simp at this
 have hsn:s'.tmps.n=n2:=hr'.own
 have tmp0:∀i:Nat,(St.mk s'.tmps.pop s'.heap).fs.tmp i=s'.fs.tmp (n2+i):=fun i=>by
  simp only[St.fs,fsOf]
  rw[TM.pop_get hold,hsn]
 refine⟨⟨hr.rel.defers,hasz,fun t ht=> ?_,fun i v hi=> ?_,hr'.rel.box,hr'.rel.nob,hr'.rel.inj,hr'.rel.row,hr'.rel.nor,hr'.rel.sep,hr'.rel.rsep,hr'.rel.fb,hr'.rel.ext,⟨hr'.rel.gs.at',hr'.rel.gs.box,hr'.rel.gs.row,hr'.rel.gs.md,hr'.rel.gs.nd,hr'.rel.gs.lp,hr'.rel.gs.nol,hr'.rel.gs.ev⟩⟩,?_,(Nat.eq_of_beq_eq_true hck.2).trans hr.own⟩
 ·have ht2:t<a.tmps.size:=by rw[hasz]; exact ht
  refine⟨a.tmps[t],Array.getElem?_eq_getElem ht2,?_⟩
  rw[tmp0]
  exact hr'.rel.sav t _ (by rw[List.getElem?_append_left (by simpa using ht2),Array.getElem?_toList]; exact Array.getElem?_eq_getElem ht2)
 ·rw[tmp0]
  have:=hr'.rel.sav (n+i) v (by rw[List.getElem?_append_right (by simp[hasz])]; simpa[hasz] using hi)
  exact this
 ·have h3:=hr'.len
  simp only[List.length_append,Array.length_toList,hasz] at h3
  have h4:=TM.pop_length hold
  show s'.tmps.pop.length=_
  omega
theorem wk {X:List Value} {W0:Wb} {s:St} {j:J} {a:Act} {w:World} (hr:At cx ρ n X W0 s j a w) {F:FS} {m:Nat} (at0:∀i:Nat,F.tmp (m+i)=s.fs.tmp i) (i:Nat) (v:Value) (hi:(a.tmps.toList++X)[i]? =some v):F.tmp (m+i)=.top∨(F.tmp (m+i)).den ρ j=some v:=by
 have hasz:=hr.rel.size
 rw[at0]
 rcases Nat.lt_or_ge i n with h1 | h1
 ·rw[List.getElem?_append_left (by simpa[hasz] using h1)] at hi
  obtain⟨v',h2,h3⟩:=hr.rel.tmp i h1
  rw[Array.getElem?_toList,h2] at hi
  cases hi
  exact h3
 ·rw[List.getElem?_append_right (by simpa[hasz] using h1)] at hi
  have:=hr.rel.sav _ v hi
  simp only[Array.length_toList,hasz] at this
  rw[show n+(i-n)=i by omega] at this
  exact this
theorem nM {dep:Nat} {t:TT} {m:Nat}:∀{l:List (TT×Nat)},mE dep l=some (t,m)→∃off,off+(m+dep)=cD l∧∀i,i<m→eC l (off+i)=some (t.get i)
 | [],h=>by cases h
 | (t0,n0)::l,h=>by
   simp only[mE] at h
   split at h
   ·rename_i hb
    cases h
    exact⟨0,by rw[←Nat.eq_of_beq_eq_true hb]; simp[cD],fun i hi=>by rw[Nat.zero_add]; simp[eC,hi]⟩
   ·obtain⟨off,h1,h2⟩:=nM h
    refine⟨n0+off,by simp only[cD]; omega,fun i hi=> ?_⟩
    simp only[eC]
    rw[if_neg (by omega),show n0+off+i-n0=off+i by omega]
    exact h2 i hi
theorem aeV {X:List Value} {W0:Wb} {s:St} {j:J} {a:Act} {w:World} {r:RfS} {rf:Rf} {t:TT} {m:Nat} (hr:At cx ρ n X W0 s j a w) {A B:List Value} (hX:X=A++(rf.tmps.toList++B)) (hB:B.length=r.dep) (hsz:rf.tmps.size=m) (hf:mE r.dep s.tmps.old=some (t,m)):
  At cx ρ m (a.tmps.toList++X) {W0 with top:=false} ⟨⟨t,m,(s.tmps.cur,s.tmps.n)::s.tmps.old⟩,s.heap⟩ j {tmps:=rf.tmps,defers:=[]} w:=by
 obtain⟨off,h1,h2⟩:=nM hf
 have hn:s.tmps.n=n:=hr.own
 have hlen:X.length=cD s.tmps.old:=by
  have h3:=hr.len
  unfold TM.length at h3
  omega
 have hA:A.length=off:=by
  have:=congrArg List.length hX
  simp only[List.length_append,Array.length_toList] at this
  omega
 refine⟨⟨rfl,hsz,fun i hi=> ?_,wk hr (fun i=> ?_),hr.rel.box,hr.rel.nob,hr.rel.inj,hr.rel.row,hr.rel.nor,hr.rel.sep,hr.rel.rsep,hr.rel.fb,hr.rel.ext,⟨hr.rel.gs.at',hr.rel.gs.box,hr.rel.gs.row,hr.rel.gs.md,hr.rel.gs.nd,hr.rel.gs.lp,hr.rel.gs.nol,hr.rel.gs.ev⟩⟩,?_,rfl⟩
 ·have hi2:i<rf.tmps.size:=by rw[hsz]; exact hi
  refine⟨rf.tmps[i],Array.getElem?_eq_getElem hi2,?_⟩
  have h3:=hr.rel.sav (off+i) rf.tmps[i] (by
   have e:rf.tmps.toList.length=m:=by simp[hsz]
   rw[hX,List.getElem?_append_right (by omega),List.getElem?_append_left (by omega)]
   rw[show off+i-A.length=i by omega,Array.getElem?_toList]
   exact Array.getElem?_eq_getElem hi2)
  have h4:s.fs.tmp (n+(off+i))=t.get i:=by
   simp only[St.fs,fsOf,TM.get?]
   rw[if_neg (by omega),show n+(off+i)-s.tmps.n=off+i by omega,h2 i hi]
   rfl
  have h5:(St.mk ⟨t,m,(s.tmps.cur,s.tmps.n)::s.tmps.old⟩ s.heap).fs.tmp i=t.get i:=by
   simp only[St.fs,fsOf,TM.get?]
   rw[if_pos hi]; rfl
  rw[h4] at h3
  rw[h5]
  exact h3
 ·simp only[St.fs,fsOf,TM.get?]
  rw[if_neg (by omega),show m+i-m=i by omega]
  rfl
 ·simp only[TM.length,cD,List.length_append,Array.length_toList,hr.rel.size]
  rw[hn,←hlen]
theorem vn {X:List Value} {W0:Wb} {heap:List Ob} {j:J} {w:World}:∀{ps:List Nat} {vs:List V} {us:List Value} {tm tm':TM} {a:Act},adX tm ps vs=some tm'→At cx ρ n X W0 ⟨tm,heap⟩ j a w→us.length=vs.length→(∀(i:Nat) x,vs[i]? =some x→∃u,us[i]? =some u∧x.den ρ j=some u)→
  At cx ρ n X W0 ⟨tm',heap⟩ j {a with tmps:=(ps.zip us).foldl (fun t p=>t.setIfInBounds p.1 p.2) a.tmps} w∧ps.length=us.length
 | [],[],[],tm,tm',a,h,hr,_,_=>by cases h; exact⟨hr,rfl⟩
 | p::ps,v::vs,u::us,tm,tm',a,h,hr,hl,hd=>by
   simp only[adX] at h
   split at h
   ·rename_i hp
    have hp:p<tm.n:=by simpa[Nat.blt_eq] using hp
    obtain⟨u',h1,h2⟩:=hd 0 v rfl
    simp only[List.getElem?_cons_zero,Option.some.injEq] at h1
    subst h1
    have hn:tm.n=n:=hr.own
    have h3:At cx ρ n X W0 ⟨tm.set p v,heap⟩ j (a.put (some p) u) w:=by
     refine⟨?_,hr.len,hr.own⟩
     have h4:=hr.rel.put (dst:=some p) h2 (fun d hd=>by cases hd; omega)
     have e:(St.mk (tm.set p v) heap).fs=(St.mk tm heap).fs.put (some p) v:=by
      refine FS.ext' (fun t=> ?_) (fun _=>rfl) (fun _=>rfl) (fun _=>rfl)
      simp only[FS.put,St.fs,fsOf,TM.get_set tm v hp]
      by_cases ht:p=t
      ·subst ht; simp
      ·simp[ht]
     rw[e]
     exact h4
    obtain⟨h5,h6⟩:=vn h h3 (by simpa using hl) (fun i x hx=>hd (i+1) x (by simpa using hx))
    exact⟨h5,by simp[h6]⟩
   ·cases h
 | [],_::_,_,_,_,_,h,_,_,_=>by cases h
 | _::_,[],_,_,_,_,h,_,_,_=>by cases h
 | [],[],_::_,_,_,_,_,_,hl,_=>by simp at hl
 | _::_,_::_,[],_,_,_,_,_,hl,_=>by simp at hl
theorem xK {x:LS} (h:LS.same x .ready=true):x=.ready:=by cases x<;>first | rfl | cases h
theorem aiC (hm:P.follows .mixedOrders=true) (hT:∀t i,(t,i)∈cx.ty→TIok P t i) (hS:∀s∈cx.sm,SmOk P sp s) (hkeys:∀s∈cx.sm,∀s'∈cx.sm,s.key=s'.key→s=s') {fuel:Nat} {cl:ClK} {r:RfS} (hcl:CallOk P sp G cx (some r) cl)
  {id:Nat} {args:List V} {s:St} {kw:Kw} {k:V→St→Kw→Tr} {R:Value→World→Prop} {n:Nat} {X:List Value} {W0:Wb} {j:J} {a:Act} {w:World} {vals:List Value} {l:Nat} (h:(rndK cl cx fuel r id args s kw k).holds sp G ρ I) (hg:Good sp cx.sm ρ kw) (hr:At cx ρ n X W0 s j a w) (ht:Tie sp (some r) X W0)
  (hyl:j.g.y id=some l) (hl:vals.length=args.length) (hd:∀(i:Nat) x,args[i]? =some x→∃u,vals[i]? =some u∧x.den ρ j=some u)
  (hR:∀v s' kw' ρ' I' j' w' u,(k v s' kw').holds sp G ρ' I'→Good sp cx.sm ρ' kw'→Ag kw.vk.length ρ ρ'→(∀m,m<kw.lv→I' m=I m)→kw.lv≤kw'.lv→kw.vk.length≤kw'.vk.length→v.den ρ' j'=some u→At cx ρ' n X W0 s' j' a w'→R u w'):
  ∃f tmps assign body,(Instr.yield l vals.toArray).run P w=.ok (.round l f tmps assign body) w∧∀ro,RoundIn (Fw ro) 0 P l f tmps assign body w fun e w'=>∃u,e=.returned u∧R u w':=by
 obtain⟨t0,rf,A,B,t1,t2,t3,t4,t5,t6,t7⟩:=ht
 unfold rndK at h
 split at h<;>first | exact h.elim | skip
 rename_i y t m hy hf
 split at h<;>first | exact h.elim | skip
 rename_i hck
 simp only[Bool.and_eq_true] at hck
 have hm0:m=r.len:=Nat.eq_of_beq_eq_true hck.1
 split at h<;>first | exact h.elim | skip
 rename_i tm htm
 have hy0:s.fs.lp id=some y:=kl.2 hy
 obtain⟨rf',o,e1,e2,e3,e4,e5,e6⟩:=hr.rel.lpZ hy0
 rw[t1] at e1; cases e1
 have hll:l=rf.l:=by rw[hyl] at e2; exact Option.some.inj e2
 subst hll
 have h0:=aeV (r:=r) (rf:=rf) hr t6 t7 (t5.trans hm0.symm) hf
 obtain⟨h1,h2⟩:=vn htm h0 hl hd
 have hps:vals.toArray.size=o.params.size:=by rw[e5.ps,t2]; simpa using h2.symm
 refine⟨o.fn,_,o.assign,o.body,run_yield e4 hps,fun ro=>roundIn_of_wpIn (F:=Fw ro) trivial ?_⟩
 have hfr:(Fw ro).inRound rf.l=Fw (some rf.l):=rfl
 rw[hfr]
 have etm:(o.params.zip vals.toArray).foldl (fun tmps (x:Nat×Value)=>match x with | (t,a)=>tmps.setIfInBounds t a) o.tmps=(r.ps.toList.zip vals).foldl (fun t p=>t.setIfInBounds p.1 p.2) rf.tmps:=by
  rw[e5.ps,e5.tmps,t2,←Array.foldl_toList,Array.toList_zip]
 rw[etm,e5.assign,t3]
 have tie2:Tie sp (some r) (a.tmps.toList++X) {W0 with top:=false}:=(show Tie sp (some r) X {W0 with top:=false} from⟨t0,rf,A,B,t1,t2,t3,t4,t5,t6,t7⟩).more _
 refine kS (rl:=none) (ry:=some r) hcl (fun f hf=>by cases hf) hm hT hS hkeys fuel r.assign {W0 with top:=false} _ kw _ _ ρ I j _ w tie2 (fun e=>by cases e) h hg h1 (fun M1 sg s1 kw1 ρ1 I1 j1 a1 w1 hM1 h' hg' ha' hI' hl' hv' hr'=> ?_)
 have hM1:M1=W0.M:=hM1 rfl
 subst hM1
 cases sg with
 | exit id=>exact h'.elim
 | ret=>exact h'.elim
 | normal=>
   dsimp only at h'
   split at h'<;>first | exact h'.elim | skip
   rename_i y1 hy1
   split at h'<;>first | exact h'.elim | skip
   rename_i hck1
   rw[Bool.and_eq_true] at hck1
   have hlp1:s1.fs.lp id=some y1:=kl.2 hy1
   obtain⟨rf1,o1,f1,f2,f3,f4,f5,f6⟩:=hr'.rel.lpZ hlp1
   have:rf1=rf:=by
    have h8:W0.rf=some rf1:=f1
    rw[t1] at h8; exact(Option.some.inj h8).symm
   subst this
   refine⟨_,run_beginRound f4 (by rw[f5.st,xK hck1.1]; rfl),?_⟩
   have h9:=hr'.rel.loopSet hlp1 (fun i yi hi=>acm hck1.2 i yi hi) f1 f2 f3 (y':=⟨.busy,y1.pend⟩) (o':={o1 with state:=.busy}) ⟨rfl,f5.pend,f5.ps,f5.assign,f5.body,f5.tmps⟩
   rw[e5.body,t4]
   have hat1:At cx ρ1 m (a.tmps.toList++X) {W0 with top:=false} ⟨s1.tmps,s1.heap.set id (.loop ⟨.busy,y1.pend⟩)⟩ (j1.setz rf1.l (some (.loop {o1 with state:=.busy}))) a1 (w1.putObj rf1.l (.loop {o1 with state:=.busy})):=by
    refine⟨?_,hr'.len,hr'.own⟩
    rw[show(St.mk s1.tmps (s1.heap.set id (.loop ⟨.busy,y1.pend⟩))).fs=s1.fs.setl id (some ⟨.busy,y1.pend⟩) from nL hy1 _]
    exact h9
   refine kS (rl:=none) (ry:=some r) hcl (fun f hf=>by cases hf) hm hT hS hkeys fuel r.body {W0 with top:=false} _ kw1 _ _ ρ1 I1 _ _ _ tie2 (fun e=>by cases e) h' hg' hat1 (fun M2 sg s2 kw2 ρ2 I2 j2 a2 w2 hM2 h'' hg'' ha'' hI'' hl'' hv'' hr''=> ?_)
   have hM2:M2=W0.M:=hM2 rfl
   subst hM2
   split at h''<;>first | exact h''.elim | skip
   rename_i y2 hy2
   split at h''<;>first | exact h''.elim | skip
   rename_i hck2
   rw[Bool.and_eq_true] at hck2
   have hat2:=agc hr hr'' hck2.1
   have hlp2:(St.mk s2.tmps.pop s2.heap).fs.lp id=some y2:=kl.2 hy2
   obtain⟨rf2,o2,g1,g2,g3,g4,g5,g6⟩:=hat2.rel.lpZ hlp2
   have:rf2=rf1:=by rw[t1] at g1; exact(Option.some.inj g1).symm
   subst this
   have ag:Ag kw.vk.length ρ ρ2:=ha'.trans (ha''.mono hv')
   have hI3:∀m,m<kw.lv→I2 m=I m:=fun m hm=>(hI'' m (by omega)).trans (hI' m hm)
   have fin:∀(jump:Option Sig) (b:Bool),b=jump.isNone→(∀sg,jump=some sg→True)→(k (.one (.bool (.tt b))) ⟨s2.tmps.pop,s2.heap.set id (.loop ⟨if b then .ready else .done,jump⟩)⟩ kw2).holds sp G ρ2 I2→
    ∃v w',(Instr.endRound rf2.l (jump.map Sig.code)).run P w2=.ok v w'∧∃u,Ending.returned v=.returned u∧R u w':=by
    intro jump b hb _ hh
    have hbn:(jump.map Sig.code).isNone=b:=by rw[hb]; cases jump<;>rfl
    refine⟨_,_,run_endRound (jump.map Sig.code) g4,_,rfl,?_⟩
    rw[hbn]
    have g9:=hat2.rel.loopSet hlp2 (fun i yi hi=>acm hck2.2 i yi hi) g1 g2 g3 (y':=⟨if b then .ready else .done,jump⟩) (o':={o2 with state:=if b then .ready else .done,pending:=jump.map Sig.code}) ⟨by cases b<;>rfl,rfl,g5.ps,g5.assign,g5.body,g5.tmps⟩
    refine hR _ _ kw2 ρ2 I2 (j2.setz rf2.l (some (.loop {o2 with state:=if b then .ready else .done,pending:=jump.map Sig.code}))) _ (.bool b) hh hg'' ag hI3 (by omega) (by omega) (by simp[V.den,C.den,E.B]) ⟨?_,hat2.len,hat2.own⟩
    rw[show(St.mk s2.tmps.pop (s2.heap.set id (.loop ⟨if b then .ready else .done,jump⟩))).fs=(St.mk s2.tmps.pop s2.heap).fs.setl id (some ⟨if b then .ready else .done,jump⟩) from nL hy2 _]
    exact g9
   cases sg with
   | normal=>exact fin none true rfl (fun _ _=>trivial) h''
   | exit id=>exact fin (some (.exit id)) false rfl (fun _ _=>trivial) h''
   | ret=>exact fin (some .ret) false rfl (fun _ _=>trivial) h''
theorem kT (hm:P.follows .mixedOrders=true) {fuel:Nat}:∀(d:Nat) (cx:Cx) (ry:Option RfS),(∀t i,(t,i)∈cx.ty→TIok P t i)→(∀s∈cx.sm,SmOk P sp s)→(∀s∈cx.sm,∀s'∈cx.sm,s.key=s'.key→s=s')→(∀p∈cx.fns,P.funcs[p.1]? =some p.2.1)→CallOk P sp G cx ry (uK fuel d cx ry)
 | 0,cx,ry,_,_,_,_=>⟨fun _ _ _ _ _ _ _ _ _ _ _ _ _ _ _ _ h=>h.elim,fun _ _ _ _ _ _ _ _ _ _ _ _ _ _ _ _ h=>h.elim⟩
 | d+1,cx,ry,hT,hS,hkeys,hF=>by
   refine⟨fun g args s kw k R ρ I n X W0 j a w vals hgb h hg hr ht hl hd hR=> ?_,fun id args s kw k R ρ I n X W0 j a w vals l h hg hr ht hyl hl hd hR=> ?_⟩
   ·have hbl:Nat.blt g yB=true:=by simpa[Nat.blt_eq] using hgb
    simp only[uK,hbl,if_true] at h
    split at h
    ·exact h.elim
    ·rename_i fn hints cuts hlook
     have hf:P.funcs[g]? =some fn:=hF _ (ak hlook)
     split at h
     ·rename_i c hc
      split at h
      ·exact h.elim
      ·rename_i hname
       refine⟨cB hf (by simpa using hname) (by rw[hc]; rfl) _ w,?_⟩
       refine pX hf hc ?_
       have hsz:vals.toArray.size=args.length:=by simpa using hl
       have hasz:=hr.rel.size
       have hle:args.length≤args.length+(fn.ntmps-args.length):=Nat.le_add_right _ _
       have at0:∀i:Nat,(s.tmps.push args (args.length+(fn.ntmps-args.length))).get? (args.length+(fn.ntmps-args.length)+i)=s.tmps.get? i:=fun i=>TM.push_old_get s.tmps hle i
       refine kS (rl:=none) (cx:={cx with hints:=hints,cuts:=cuts}) (n:=args.length+(fn.ntmps-args.length)) (X:=a.tmps.toList++X) (kT hm d _ ry hT hS hkeys hF) (fun f hf=>by cases hf) hm hT hS hkeys fuel c {W0 with top:=false} _ kw _ _ ρ I j _ w ht (fun e=>by cases e) h hg
        ⟨⟨rfl,by simp[hl],?_,?_,hr.rel.box,hr.rel.nob,hr.rel.inj,hr.rel.row,hr.rel.nor,hr.rel.sep,hr.rel.rsep,hr.rel.fb,hr.rel.ext,⟨hr.rel.gs.at',hr.rel.gs.box,hr.rel.gs.row,hr.rel.gs.md,hr.rel.gs.nd,hr.rel.gs.lp,hr.rel.gs.nol,hr.rel.gs.ev⟩⟩,?_,TM.push_n _ _ _⟩ ?_
       ·intro t ht
        rcases Nat.lt_or_ge t args.length with h1 | h1
        ·obtain⟨u,hu,hdu⟩:=hd t args[t] (List.getElem?_eq_getElem h1)
         refine⟨u,?_,.inr ?_⟩
         ·rw[Array.getElem?_append_left (by simpa[hl] using h1)]
          simpa using hu
         ·simp only[St.fs,fsOf]
          rw[TM.push_arg s.tmps hle h1,List.getElem?_eq_getElem h1]
          exact hdu
        ·refine⟨Go.undef,?_,.inr ?_⟩
         ·rw[Array.getElem?_append_right (by simpa[hl] using h1)]
          rw[Array.getElem?_replicate,if_pos (by rw[hsz]; omega)]
         ·simp only[St.fs,fsOf]
          rw[TM.push_undef s.tmps hle h1 ht]
          rfl
       ·exact wk hr (fun i=>by simp only[St.fs,fsOf,at0])
       ·simp only[TM.push_length,hr.len,List.length_append,Array.length_toList,hasz]
       ·intro M' sg s' kw' ρ' I' j' a' w' hM' h' hg' ha' hI' hl' hv' hr'
        have hM':M'=W0.M:=hM' rfl
        subst hM'
        have hr':At cx ρ' (args.length+(fn.ntmps-args.length)) (a.tmps.toList++X) {W0 with top:=false} s' j' a' w':=⟨hr'.rel,hr'.len,hr'.own⟩
        have fin:(match resL cx s' fn.results.toList with
         | some xs=>if Nat.beq s'.tmps.old.length (s.tmps.old.length+1)&&Nat.beq s'.tmps.pop.n s.n then k (zj xs) ⟨s'.tmps.pop,s'.heap⟩ kw' else .stuck 129
         | none=>.stuck 81:Tr).holds sp G ρ' I'→a'.defers=[]∧∃v,(results fn a'.tmps).run P w'=.ok v w'∧∃u,Ending.returned v=.returned u∧R u w':=by
         intro h'
         split at h'
         ·rename_i xs hxs
          split at h'<;>first | exact h'.elim | skip
          rename_i hck
          obtain⟨vs,h1,h2⟩:=nA hT hr' hxs
          exact⟨hr'.rel.defers,_,h2,_,rfl,hR (zj xs) _ kw' ρ' I' j' w' _ h' hg' ha' hI' hl' hv' (zi h1) (agc hr hr' hck)⟩
         ·exact h'.elim
        cases sg with
        | exit id=>exact h'.elim
        | normal=>exact fin h'
        | ret=>exact fin h'
     ·exact h.elim
   ·have hbl:Nat.blt (yB+id) yB=false:=by
     cases hb:Nat.blt (yB+id) yB with
     | false=>rfl
     | true=>
       have:yB+id<yB:=by simpa[Nat.blt_eq] using hb
       omega
    simp only[uK,hbl] at h
    split at h
    ·cases ‹false=true›
    ·split at h
     ·rename_i r
      rw[show yB+id-yB=id by omega] at h
      obtain⟨f,tm,as,bd,h1,h2⟩:=aiC (cx:={cx with hints:=r.hints,cuts:=r.cuts}) hm hT hS hkeys (kT hm d {cx with hints:=r.hints,cuts:=r.cuts} (some r) hT hS hkeys hF) h hg ⟨hr.rel,hr.len,hr.own⟩ ht hyl hl hd (R:=R) (fun v s' kw' ρ' I' j' w' u q1 q2 q3 q4 q5 q6 q7 q8=>hR v s' kw' ρ' I' j' w' u q1 q2 q3 q4 q5 q6 q7 ⟨q8.rel,q8.len,q8.own⟩)
      exact⟨f,tm,as,bd,h1,h2⟩
     ·exact h.elim
theorem ajl (hF:∀p∈cx.fns,P.funcs[p.1]? =some p.2.1) (hm:P.follows .mixedOrders=true) (hT:∀t i,(t,i)∈cx.ty→TIok P t i) (hS:∀s∈cx.sm,SmOk P sp s) (hkeys:∀s∈cx.sm,∀s'∈cx.sm,s.key=s'.key→s=s') {f:Nat} {fn:Func} (hf:P.funcs[f]? =some fn)
  {fuel:Nat} {args:List V} {heap:List Ob} {kw:Kw} {vals:List Value} {j:J} (hargs:∀(i:Nat) x,args[i]? =some x→∃u,vals[i]? =some u∧x.den ρ j=some u) (hlen:vals.length=args.length) {tup:Bool} (ht:Nat.beq cx.res.length 1 = !tup) {X:List Dt}
  (h:(funK cx fuel fn args heap kw).holds sp (fun ρ e=>e.D ρ=X) ρ I) (hg:Good sp cx.sm ρ kw) (w:World) (hst:Start cx ρ heap j w) (hhw:sp.hw w):Calls P f vals.toArray w fun e w'=>∃v,e=.returned v∧RetOk cx.res tup w w' X v:=by
 unfold funK at h
 split at h
 ·rename_i c hc
  refine fM.1 (callsIn_of_wp_marks (F:=Fw none) (n:=0) hf hc trivial ?_)
  have hsz:vals.toArray.size=args.length:=by simpa using hlen
  have fS:∀b,(rowH heap b=none↔heap.length≤b)∧∀r,rowH heap b=some (some r)→heap[b]? =some (.row r):=by
   intro b
   refine⟨⟨fun hb=> ?_,fun hb=>by simp[rowH,List.getElem?_eq_none hb]⟩,fun r hb=> ?_⟩
   ·rcases Nat.lt_or_ge b heap.length with hlt | hge
    ·obtain⟨r,s,e,_⟩:=hst.row b _ (List.getElem?_eq_getElem hlt)
     simp[rowH,List.getElem?_eq_getElem hlt,e] at hb
    ·exact hge
   ·unfold rowH at hb
    split at hb
    ·rename_i r' hr; cases hb; exact hr
    ·cases hb
    ·cases hb
  have hown:∀b r,rowH heap b=some (some r)→r.own=false:=fun b r hb=>by
   obtain⟨r',s,e,h1,_⟩:=hst.row b _ ((fS b).2 r hb)
   cases e; exact h1
  have nobox:∀b,boxH heap b=none:=fun b=>by
   unfold boxH
   split
   ·rename_i cs ty hb
    obtain⟨r,s,e,_⟩:=hst.row b _ hb
    cases e
   ·rfl
  refine kS (P:=P) (n:=args.length+(fn.ntmps-args.length)) (X:=[]) (kT hm 12 cx none hT hS hkeys hF) (fun f hf=>by cases hf; exact⟨rfl,fun r=>kT hm 12 cx (some r) hT hS hkeys hF⟩) hm hT hS hkeys fuel c ⟨w,[],true,none,sp.hw,fun w' hx=>sp.hx w w' hx hhw⟩ _ kw _ _ ρ I j _ w ⟨rfl,trivial⟩ (fun _=>⟨rfl,rfl⟩) h hg ⟨⟨rfl,by simp[hlen],?_,fun i v hi=>(by simp at hi),fun b cs ty hb=> ?_,fun b _=>hst.nob b,fun b b' k hb=> ?_,fun b r hb=> ?_,fun b hb=>hst.nos b ((fS b).1.1 hb),fun b b' k r s hb=> ?_,fun b b' r r' s s' k hb ho=> ?_,hst.fb,Ext.refl w,⟨fun k o hz=>(by rw[hst.gh] at hz; have:=pW.1 hz; exact⟨this.1,fun e=>by rw[this.2] at e; cases e⟩),fun k o b hz e=>(by rw[hst.nob] at e; cases e),fun k o id r s hz hF hs hc e=>(by rw[hst.gh] at hz; have h1:=(pW.1 hz).2; have h2:r.own=false:=hown id r hF; exact hc.elim (fun hc=>Bool.noConfusion (h2.symm.trans hc)) (fun hc=>Bool.noConfusion (h1.symm.trans hc))),fun D hD=>(by cases hD),List.nodup_nil,fun id y hy=> ?_,fun id _ _=>(by rw[hst.gh]),fun id r s hF hs=> ?_⟩⟩,(by rw[TM.push_length]; rfl),TM.push_n _ _ _⟩ ?_
  ·intro t ht
   rcases Nat.lt_or_ge t args.length with h1 | h1
   ·obtain⟨u,hu,hd⟩:=hargs t args[t] (List.getElem?_eq_getElem h1)
    refine⟨u,?_,.inr ?_⟩
    ·rw[Array.getElem?_append_left (by simpa[hlen] using h1)]
     simpa using hu
    ·simp only[St.fs,fsOf]
     rw[TM.push_arg _ (Nat.le_add_right _ _) h1,List.getElem?_eq_getElem h1]
     exact hd
   ·refine⟨Go.undef,?_,.inr ?_⟩
    ·rw[Array.getElem?_append_right (by simpa[hlen] using h1)]
     rw[Array.getElem?_replicate,if_pos (by rw[hsz]; omega)]
    ·simp only[St.fs,fsOf]
     rw[TM.push_undef _ (Nat.le_add_right _ _) h1 ht]
     rfl
  ·rw[show(St.mk (TM.push args (args.length+(fn.ntmps-args.length)) ⟨.leaf (.one .undef),0,[]⟩) heap).fs.box b=boxH heap b from rfl,nobox] at hb
   cases hb
  ·rw[hst.nob] at hb; cases hb
  ·obtain⟨r',s,e,h1,h2,h3⟩:=hst.row b _ ((fS b).2 r hb)
   cases e
   exact⟨s,h2,h3⟩
  ·rw[hst.nob] at hb; cases hb
  ·rw[hown b r hb] at ho; cases ho
  ·obtain⟨r,s,e,_⟩:=hst.row id _ (kl.1 hy)
   cases e
  ·exact fun p hp=>by rw[hst.gh]; have h1:=hst.zz id s hs p hp; exact⟨pW.2 h1,h1.2⟩
  ·intro M' sg s' kw' ρ' I' j1' a1' w1' _ h' hg' ha' hI' hl' hv' hr1
   have leave:(∀j' w',At cx ρ' (args.length+(fn.ntmps-args.length)) [] ⟨w,[],true,none,sp.hw,fun w' hx=>sp.hx w w' hx hhw⟩ s' j' {a1' with defers:=[]} w'→∃v,(results fn a1'.tmps).run P w'=.ok v w'∧∃u,Ending.returned v=.returned u∧RetOk cx.res tup w w' X u)→LeavesInM (Fw none) 0 P fn a1'.tmps (fun e w'=>∃v,e=.returned v∧RetOk cx.res tup w w' X v) a1'.defers .returning w1':=by
    intro hk
    rw[hr1.rel.defers]
    refine Rel.unmark M' rfl hr1.rel (fun j' w' h2=> ?_)
    obtain⟨v,k1,k2⟩:=hk j' w' ⟨h2,hr1.len,hr1.own⟩
    exact⟨v,k1,k2⟩
   have fin:∀j' w',At cx ρ' (args.length+(fn.ntmps-args.length)) [] ⟨w,[],true,none,sp.hw,fun w' hx=>sp.hx w w' hx hhw⟩ s' j' {a1' with defers:=[]} w'→∀xs,resL cx s' fn.results.toList=some xs→∀e,mK kw'.vk s'.heap cx.res xs=some e→ki (oids cx.res xs)=true→e.D ρ'=X→∃v,(results fn a1'.tmps).run P w'=.ok v w'∧∃u,Ending.returned v=.returned u∧RetOk cx.res tup w w' X u:=by
    intro j' w' hr' xs hxs e he hn hX
    obtain⟨vs,h1,h2⟩:=nA hT hr' hxs
    have h3:=pR hg'.vk hr'.rel he h1
    have h4:=h3.ret (tup:=tup) ht (by rw[fm h1,mJ he]) hr'.rel.ext (fun i i' a b k hi hi' hk hk'=> ?_) (fun a ha p hp=> ?_)
    ·rw[hX] at h4
     exact⟨_,h2,_,rfl,h4⟩
    ·cases a with
     | none=>cases hk
     | some a=>
       cases b with
       | none=>cases hk'
       | some b=>
         obtain⟨r,hr1,hr2⟩:=fF he i a hi
         obtain⟨r',hr3,hr4⟩:=fF he i' b hi'
         rw[←jy] at hr1 hr3
         have q1:=eV hr1
         have q2:=eV hr3
         obtain⟨s1,t1,_⟩:=hr'.rel.row a r q1
         obtain⟨s2,t2,_⟩:=hr'.rel.row b r' q2
         simp only[aai,t1,t2,Option.getD_some] at hk hk'
         have:=hr'.rel.rsep a b r r' s1 s2 k q1 hr2 q2 t1 t2 (kq hr2 hk) (kq hr4 hk')
         subst this
         exact rK hn i i' a hi hi'
    ·cases a with
     | none=>cases hp
     | some a=>
       obtain⟨i,hi⟩:=List.getElem?_of_mem ha
       obtain⟨r,hr1,hr2⟩:=fF he i a hi
       have hr0:=hr1
       rw[←jy] at hr1
       have q1:=eV hr1
       obtain⟨s1,t1,t3⟩:=hr'.rel.row a r q1
       cases hev:evAt s'.heap a with
       | false=>simp[svOf,hev] at hp
       | true=>
         have hs1:svOf s'.heap j' (some a)=s1:=by simp[svOf,hev,t1]
         rw[hs1] at hp
         have hkd:r.kd=.ev:=by
          unfold evAt at hev
          rw[hr0] at hev
          exact RK.isEv_eq hev
         obtain⟨z1,z2⟩:=hr'.rel.gs.ev a r s1 q1 t1 p hp
         refine⟨(hr'.rel.gs.at' _ _ z1).1,z2,(t3.2.2 hkd).zb hr2 p hp,fun u hu e=> ?_⟩
         obtain⟨b,hb,rfl⟩:=List.mem_map.1 hu
         cases b with
         | none=>cases e
         | some b=>
           obtain⟨i',hi'⟩:=List.getElem?_of_mem hb
           obtain⟨r',hr3,hr4⟩:=fF he i' b hi'
           rw[←jy] at hr3
           have q2:=eV hr3
           obtain⟨s2,t2,_⟩:=hr'.rel.row b r' q2
           simp only[aai,t2,Option.getD_some] at e
           exact hr'.rel.gs.row _ _ b r' s2 z1 q2 t2 (.inl hr4) (kq hr4 e)
   have fin':(match resL cx s' fn.results.toList with
     | some xs=>match mK kw'.vk s'.heap cx.res xs with
       | some e=>if ki (oids cx.res xs) then .leaf e else .stuck 83
       | none=>.stuck 84
     | none=>.stuck 81:Tr).holds sp (fun ρ e=>e.D ρ=X) ρ' I'→LeavesInM (Fw none) 0 P fn a1'.tmps (fun e w'=>∃v,e=.returned v∧RetOk cx.res tup w w' X v) a1'.defers .returning w1':=by
    intro h'
    split at h'
    ·rename_i xs hxs
     split at h'
     ·rename_i e he
      split at h'
      ·rename_i hn; exact leave (fun j' w' hr'=>fin j' w' hr' xs hxs e he hn h')
      ·exact h'.elim
     ·exact h'.elim
    ·exact h'.elim
   cases sg with
   | exit id=>exact h'.elim
   | normal=>exact fin' h'
   | ret=>exact fin' h'
 ·exact h.elim
end
end Go.Proofs.YtfkhblmeioiciaaGreatDoor
set_option linter.unusedVariables false
set_option linter.unusedSimpArgs false
namespace Go.Proofs.YtfkhblmeioiciaaGreatDoor
open Go.RowKit
def Tr.sc:Nat→Tr→Bool
 | _,.leaf _ | _,.panic | _,.stuck _ | _,.at _ _=>true
 | n,.br e t f=>e.sc n&&(t.sc n&&f.sc n)
 | n,.call _ ks args v0 t=>args.sc n&&(Nat.beq v0 n&&t.sc (n+ks.length))
 | n,.next _ args=>args.sc n
 | n,.loop _ v0 vks init body=>init.sc n&&(Nat.beq v0 n&&body.sc (n+vks.length))
 | n,.cut _ v0 vks pre body=>Nat.beq v0 n&&(pre.sc n&&body.sc (n+vks.length))
 | n,.any v0 _ t=>Nat.beq v0 n&&t.sc (n+1)
 | n,.both v0 a b=>Nat.beq v0 n&&(a.sc n&&b.sc n)
def Tr.asks (sp:Spec) (G:Env→E→Prop):Env→(Nat→List Dt→Prop)→Tr→Prop
 | ρ,_,.leaf e=>G ρ e
 | _,_,.panic=>False
 | _,_,.stuck _=>False
 | _,_,.at _ _=>False
 | ρ,I,.br e t f=>(e.B ρ=true→t.asks sp G ρ I)∧(e.B ρ=false→f.asks sp G ρ I)
 | ρ,I,.call key ks args v0 t=>sp.pre key (args.D ρ)∧(eqs ρ (sp.F key (args.D ρ)) v0 0 ks→t.asks sp G ρ I)
 | ρ,I,.next lv args=>I lv (args.D ρ)
 | ρ,I,.any v0 e t=>∀ρ',Ag v0 ρ ρ'→inK .i64 (ρ'.i v0)=true→e.B ρ'=true→t.asks sp G ρ' I
 | ρ,I,.both _ a b=>a.asks sp G ρ I∧b.asks sp G ρ I
 | ρ,I,.loop lv v0 vks init body=>∃(inv:List Dt→Prop) (μ:List Dt→Nat),inv (init.D ρ)∧
   ∀ρ',Ag v0 ρ ρ'→okDs vks (af ρ' v0 vks)→inv (af ρ' v0 vks)→body.asks sp G ρ' (upd I lv fun ds'=>inv ds'∧μ ds'<μ (af ρ' v0 vks))
 | ρ,I,.cut lv v0 vks pre body=>∃inv:List Dt→Prop,pre.asks sp G ρ (upd I lv inv)∧
   ∀ρ',Ag v0 ρ ρ'→okDs vks (af ρ' v0 vks)→inv (af ρ' v0 vks)→body.asks sp G ρ' I
theorem Tr.asks_mono {sp:Spec} {G:Env→E→Prop}:∀(t:Tr) (ρ:Env) (I I':Nat→List Dt→Prop),(∀n ds,I n ds→I' n ds)→t.asks sp G ρ I→t.asks sp G ρ I':=by
 intro t
 induction t with
 | leaf | panic | stuck | «at» =>intro ρ I I' _ h; exact h
 | br e t f iht ihf=>intro ρ I I' hi h; exact⟨fun hb=>iht ρ I I' hi (h.1 hb),fun hb=>ihf ρ I I' hi (h.2 hb)⟩
 | call key ks args v0 t ih=>intro ρ I I' hi h; exact⟨h.1,fun he=>ih ρ I I' hi (h.2 he)⟩
 | next lv args=>intro ρ I I' hi h; exact hi _ _ h
 | any v0 e t ih=>intro ρ I I' hi h; exact fun ρ' h1 h2 h3=>ih ρ' I I' hi (h ρ' h1 h2 h3)
 | both v0 a b iha ihb=>intro ρ I I' hi h; exact⟨iha ρ I I' hi h.1,ihb ρ I I' hi h.2⟩
 | loop lv v0 vks init body ih=>
   intro ρ I I' hi h
   obtain⟨inv,μ,h1,h2⟩:=h
   refine⟨inv,μ,h1,fun ρ' ha hd hv=>ih ρ' _ _ (fun n ds=> ?_) (h2 ρ' ha hd hv)⟩
   unfold upd
   split
   ·exact id
   ·exact hi n ds
 | cut lv v0 vks pre body ihp ihb=>
   intro ρ I I' hi h
   obtain⟨inv,h1,h2⟩:=h
   refine⟨inv,ihp ρ _ _ (fun n ds=> ?_) h1,fun ρ' ha hd hv=>ihb ρ' I I' hi (h2 ρ' ha hd hv)⟩
   unfold upd
   split
   ·exact id
   ·exact hi n ds
def Env.put (ρ:Env) (v0:Nat) (ds:List Dt):Env:=⟨fun i=>if v0≤i then dI ds (i-v0) else ρ.i i,fun i=>if v0≤i then dB ds (i-v0) else ρ.b i,fun i=>if v0≤i then dL ds (i-v0) else ρ.l i⟩
theorem iL (ρ:Env) (v0:Nat) (ds:List Dt):Ag v0 ρ (ρ.put v0 ds):=fun i hi=>by
 have:¬v0≤i:=by omega
 simp[Env.put,this]
theorem agx {ρ:Env} {ds:List Dt} {v0:Nat}:∀(ks:List CK) (n:Nat),(∀m,n≤m→m<n+ks.length→ρ.i (v0+m)=dI ds m∧ρ.b (v0+m)=dB ds m∧ρ.l (v0+m)=dL ds m)→eqs ρ ds v0 n ks
 | [],_,_=>trivial
 | k::ks,n,h=>by
   have h0:=h n (Nat.le_refl _) (by simp)
   have h1:=agx ks (n+1) (fun m h1 h2=>h m (by omega) (by simp at h2 ⊢; omega))
   cases k
   case int=>exact⟨h0.1,h1⟩
   case bool=>exact⟨h0.2.1,h1⟩
   case sl=>exact⟨h0.2.2,h1⟩
   all_goals exact h1
theorem uW {ρ:Env} {v0:Nat} {ds:List Dt}:∀(vks:List VK) (n:Nat),okDs vks (ds.drop n)→(∀m,n≤m→m<n+vks.length→ρ.i (v0+m)=dI ds m∧ρ.b (v0+m)=dB ds m∧ρ.l (v0+m)=dL ds m)→af ρ (v0+n) vks=ds.drop n
 | [],n,h,_=>by
   cases hd:ds.drop n with
   | nil=>rfl
   | cons d r=>rw[hd] at h; exact h.elim
 | k::vks,n,h,hv=>by
   cases hd:ds.drop n with
   | nil=>rw[hd] at h; cases k<;>exact h.elim
   | cons d r=>
     rw[hd] at h
     obtain⟨d1,d2⟩:=cF hd
     have ih:=uW vks (n+1) (by rw[d2]; exact h.2) (fun m h1 h2=>hv m (by omega) (by simp at h2 ⊢; omega))
     rw[d2] at ih
     obtain⟨h1,h2,h3⟩:=hv n (Nat.le_refl _) (by simp)
     simp only[af]
     rw[show v0+n+1=v0+(n+1) by omega,ih]
     congr 1
     have ok:=h.1
     cases k with
     | int k=>
       cases d with
       | z x=>simp only[varD]; rw[h1,adc d1]
       | l L=>exact ok.elim
     | bool=>
       cases d with
       | z x=>
         simp only[varD]; rw[h2]
         simp only[dB,adc d1]
         rcases ok with rfl | rfl<;>rfl
       | l L=>exact ok.elim
     | list ks=>
       cases d with
       | z x=>exact ok.elim
       | l L=>simp only[varD]; rw[h3,afy d1]
theorem iK {ρ:Env} {v0:Nat} {ds:List Dt} {vks:List VK} (h:okDs vks ds) {ρ':Env} (ha:Ag (v0+vks.length) (ρ.put v0 ds) ρ'):af ρ' v0 vks=ds:=by
 refine(uW (v0:=v0) (ds:=ds) vks 0 h (fun m _ h2=> ?_))
 have:=ha (v0+m) (by omega)
 simp only[Env.put,if_pos (Nat.le_add_right v0 m),Nat.add_sub_cancel_left] at this
 exact⟨this.1.symm,this.2.1.symm,this.2.2.symm⟩
theorem yx {sp:Spec} {G:Env→E→Prop}:∀(t:Tr) (n:Nat) (ρ:Env) (I:Nat→List Dt→Prop),t.sc n=true→(∀ρ',Ag n ρ ρ'→t.asks sp G ρ' I)→∃ρ',Ag n ρ ρ'∧t.holds sp G ρ' I:=by
 intro t
 induction t with
 | leaf v=>intro n ρ I _ h; exact⟨ρ,Ag.refl n ρ,h ρ (Ag.refl n ρ)⟩
 | panic=>intro n ρ I _ h; exact(h ρ (Ag.refl n ρ)).elim
 | stuck m=>intro n ρ I _ h; exact(h ρ (Ag.refl n ρ)).elim
 | «at» m s=>intro n ρ I _ h; exact(h ρ (Ag.refl n ρ)).elim
 | next lv args=>intro n ρ I _ h; exact⟨ρ,Ag.refl n ρ,h ρ (Ag.refl n ρ)⟩
 | any v0 e t ih=>
   intro n ρ I hs h
   simp only[Tr.sc,Bool.and_eq_true] at hs
   have hv':=Nat.eq_of_beq_eq_true hs.1
   subst hv'
   refine⟨ρ,Ag.refl _ _,fun z hz=> ?_⟩
   have hzi:∀ρ',Ag (v0+1) (ρ.put v0 [.z z]) ρ'→ρ'.i v0=z:=fun ρ' hag=>by
    rw[←(hag v0 (by omega)).1]
    simp[Env.put,dI]
   cases hb:e.B (ρ.put v0 [.z z]) with
   | false=>exact⟨_,iL ρ v0 _,hzi _ (Ag.refl _ _),fun hf=>by rw[hb] at hf; cases hf⟩
   | true=>
     by_cases hne:∃ρ',Ag (v0+1) (ρ.put v0 [.z z]) ρ'∧e.B ρ'=false
     ·obtain⟨ρ',g1,g2⟩:=hne
      exact⟨ρ',(iL ρ v0 _).trans (g1.mono (by omega)),hzi ρ' g1,fun hf=>by rw[g2] at hf; cases hf⟩
     ·have hall:∀ρ',Ag (v0+1) (ρ.put v0 [.z z]) ρ'→e.B ρ'=true:=fun ρ' g1=>by
       cases hq:e.B ρ' with
       | true=>rfl
       | false=>exact absurd ⟨ρ',g1,hq⟩ hne
      obtain⟨ρ',g1,g2⟩:=ih (v0+1) (ρ.put v0 [.z z]) I hs.2 (fun ρ' hag=>h ρ (Ag.refl _ _) ρ' ((iL ρ v0 _).trans (hag.mono (by omega))) (by rw[hzi ρ' hag]; exact hz) (hall ρ' hag))
      exact⟨ρ',(iL ρ v0 _).trans (g1.mono (by omega)),hzi ρ' g1,fun _=>g2⟩
 | br e t f iht ihf=>
   intro n ρ I hs h
   simp only[Tr.sc,Bool.and_eq_true] at hs
   cases hb:e.B ρ with
   | true=>
     obtain⟨ρ',h1,h2⟩:=iht n ρ I hs.2.1 (fun ρ' ha=>(h ρ' ha).1 (by rw[←(E.sc_eq ha e hs.1).2.1]; exact hb))
     refine⟨ρ',h1,fun _=>h2,fun hf=> ?_⟩
     rw[←(E.sc_eq h1 e hs.1).2.1,hb] at hf
     cases hf
   | false=>
     obtain⟨ρ',h1,h2⟩:=ihf n ρ I hs.2.2 (fun ρ' ha=>(h ρ' ha).2 (by rw[←(E.sc_eq ha e hs.1).2.1]; exact hb))
     refine⟨ρ',h1,fun hf=> ?_,fun _=>h2⟩
     rw[←(E.sc_eq h1 e hs.1).2.1,hb] at hf
     cases hf
 | call key ks args v0 t ih=>
   intro n ρ I hs h
   simp only[Tr.sc,Bool.and_eq_true] at hs
   obtain⟨ha,hv,ht⟩:=hs
   have hv':=Nat.eq_of_beq_eq_true hv
   subst hv'
   have ag1:∀ρ',Ag (v0+ks.length) (ρ.put v0 (sp.F key (args.D ρ))) ρ'→Ag v0 ρ ρ':=fun ρ' hag=>(iL ρ v0 _).trans (hag.mono (by omega))
   have he:∀ρ',Ag (v0+ks.length) (ρ.put v0 (sp.F key (args.D ρ))) ρ'→eqs ρ' (sp.F key (args.D ρ')) v0 0 ks:=fun ρ' hag=>by
    rw[←(E.sc_eq (ag1 ρ' hag) args ha).2.2.2.2]
    refine agx ks 0 (fun m h1 h2=> ?_)
    have:=hag (v0+m) (by omega)
    simp only[Env.put,if_pos (Nat.le_add_right v0 m),Nat.add_sub_cancel_left] at this
    exact⟨this.1.symm,this.2.1.symm,this.2.2.symm⟩
   obtain⟨ρ',h1,h2⟩:=ih (v0+ks.length) _ I ht (fun ρ' hag=>(h ρ' (ag1 ρ' hag)).2 (he ρ' hag))
   exact⟨ρ',ag1 ρ' h1,(h ρ' (ag1 ρ' h1)).1,he ρ' h1,h2⟩
 | both v0 a b iha ihb=>
   intro n ρ I hs h
   simp only[Tr.sc,Bool.and_eq_true] at hs
   obtain⟨hv,ha,hb⟩:=hs
   have hv':=Nat.eq_of_beq_eq_true hv
   subst hv'
   obtain⟨ρ1,g1,g2⟩:=iha v0 ρ I ha (fun ρ' hag=>(h ρ' hag).1)
   obtain⟨ρ2,g3,g4⟩:=ihb v0 ρ I hb (fun ρ' hag=>(h ρ' hag).2)
   exact⟨ρ,Ag.refl _ _,⟨ρ1,g1,g2⟩,ρ2,g3,g4⟩
 | loop lv v0 vks init body ih=>
   intro n ρ I hs h
   simp only[Tr.sc,Bool.and_eq_true] at hs
   obtain⟨hi,hv,hb⟩:=hs
   have hv':=Nat.eq_of_beq_eq_true hv
   subst hv'
   obtain⟨inv,μ,h1,h2⟩:=h ρ (Ag.refl _ _)
   refine⟨ρ,Ag.refl _ _,inv,μ,h1,fun ds hd hin=> ?_⟩
   obtain⟨ρ',g1,g2⟩:=ih (v0+vks.length) (ρ.put v0 ds) (upd I lv fun ds'=>inv ds'∧μ ds'<μ ds) hb (fun ρ' hag=>by
    have hvs:=iK hd hag
    have:=h2 ρ' ((iL ρ v0 ds).trans (hag.mono (by omega))) (by rw[hvs]; exact hd) (by rw[hvs]; exact hin)
    rw[hvs] at this
    exact this)
   exact⟨ρ',(iL ρ v0 ds).trans (g1.mono (by omega)),iK hd g1,g2⟩
 | cut lv v0 vks pre body ihp ihb=>
   intro n ρ I hs h
   simp only[Tr.sc,Bool.and_eq_true] at hs
   obtain⟨hv,hp,hb⟩:=hs
   have hv':=Nat.eq_of_beq_eq_true hv
   subst hv'
   let J:List Dt→Prop:=fun ds=>∃(ρ1:Env) (inv:List Dt→Prop),Ag v0 ρ ρ1∧inv ds∧∀ρ',Ag v0 ρ1 ρ'→okDs vks (af ρ' v0 vks)→inv (af ρ' v0 vks)→body.asks sp G ρ' I
   obtain⟨ρ2,k1,k2⟩:=ihp v0 ρ (upd I lv J) hp (fun ρ' ha=>by
    obtain⟨inv,h1,h2⟩:=h ρ' ha
    refine pre.asks_mono ρ' _ _ (fun m ds=> ?_) h1
    unfold upd
    split
    ·exact fun hi=>⟨ρ',inv,ha,hi,h2⟩
    ·exact id)
   refine⟨ρ2,k1,J,k2,fun ds hd hin=> ?_⟩
   obtain⟨ρ1,inv,a1,a2,a3⟩:=hin
   obtain⟨ρ',g1,g2⟩:=ihb (v0+vks.length) (ρ1.put v0 ds) I hb (fun ρ' hag=>by
    have hvs:=iK hd hag
    exact a3 ρ' ((iL ρ1 v0 ds).trans (hag.mono (by omega))) (by rw[hvs]; exact hd) (by rw[hvs]; exact a2))
   exact⟨ρ',(k1.symm.trans a1).trans ((iL ρ1 v0 ds).trans (g1.mono (by omega))),iK hd g1,g2⟩
def ajt:C→Value→Bool
 | .int k (.lit z),.int k' z'=>aX k k'&&hC z z'
 | .bool (.tt b),.bool b'=>b==b'
 | .nilp,.pointer none=>true
 | .nsl,.slice none 0 0=>true
 | .nilf,.nilFunc=>true
 | .nmp,.map none=>true
 | .str .lnil,.string s=>s.data.toList.isEmpty
 | _,_=>false
def sr:List C→List Value→Bool
 | [],[]=>true
 | c::cs,v::vs=>ajt c v&&sr cs vs
 | _,_=>false
theorem afB {c:C} {v:Value} (h:ajt c v=true) (ρ:Env) (j:J):c.den ρ j=some v:=by
 unfold ajt at h
 split at h
 ·simp only[Bool.and_eq_true] at h
  rw[av h.1,gZ h.2]; rfl
 ·rw[beq_iff_eq] at h; rw[h]; rfl
 ·rfl
 ·rfl
 ·rfl
 ·rfl
 ·rename_i s
  obtain⟨⟨l⟩⟩:=s
  have:l=[]:=by simpa using h
  subst this
  rfl
 ·cases h
theorem mL (ρ:Env) (j:J):∀{cs:List C} {vs:List Value},sr cs vs=true→denL ρ j cs=some vs
 | [],[],_=>rfl
 | c::cs,v::vs,h=>by
   simp only[sr,Bool.and_eq_true] at h
   simp[denL,afB h.1,mL ρ j h.2]
def fK (P:Program):List Field→List (Nat×Nat)→Bool
 | [],[]=>true
 | f::fs,(off,ft)::l=>Nat.beq f.offset off&&(Nat.beq f.type ft&&((match P.info? ft with | some i=>!Nat.beq i.size 0 | none=>false)&&fK P fs l))
 | _,_=>false
def ckTI (P:Program) (t:Nat) (i:TI):Bool:=
 match P.info? t,P.underlying t with
 | some inf,some d=>
   (((match i.mapt with | none=>true | some (k,e)=>(match d with | .map k' e'=>Nat.beq k k'&&Nat.beq e e' | _=>false))&&(match i.kd with | 0=>true | 1=>(match d with | .pointer _=>true | _=>false) | 2=>(match d with | .string=>true | _=>false) | _=>false))&&(match inf.zero with | some (.agg _)=>i.agg | some _=>!i.agg | none=>false))&&(Nat.beq inf.size i.size&&((match inf.zero with | some z=>sr i.zero z.cells.toList&&Nat.beq z.cells.toList.length i.size | none=>false)&&(Nat.beq inf.bytes i.bytes&&
   (match d with
    | .struct fs=>i.agg&&(i.arr.isNone&&(i.ik.isNone&&(!i.isb&&(i.sle.isNone&&(!i.fnt&&fK P fs.toList i.fields)))))
    | .array n e=>i.agg&&((match i.arr with | some (m,e')=>Nat.beq n m&&Nat.beq e e' | none=>false)&&(i.ik.isNone&&(!i.isb&&(i.sle.isNone&&(!i.fnt&&i.fields.isEmpty)))))
    | .int k=>!i.agg&&(i.arr.isNone&&((match i.ik with | some k'=>aX k k' | none=>false)&&(!i.isb&&(i.sle.isNone&&(!i.fnt&&i.fields.isEmpty)))))
    | .bool=>!i.agg&&(i.arr.isNone&&(i.ik.isNone&&(i.sle.isNone&&(!i.fnt&&i.fields.isEmpty))))
    | .slice e=>!i.agg&&(i.arr.isNone&&(i.ik.isNone&&(!i.isb&&((match i.sle with | some e'=>Nat.beq e e' | none=>false)&&(!i.fnt&&i.fields.isEmpty)))))
    | .func _ _ _=>!i.agg&&(i.arr.isNone&&(i.ik.isNone&&(!i.isb&&(i.sle.isNone&&i.fields.isEmpty))))
    | _=>!i.agg&&(i.arr.isNone&&(i.ik.isNone&&(!i.isb&&(i.sle.isNone&&(!i.fnt&&i.fields.isEmpty)))))))))
 | _,_=>false
theorem gU {P:Program}:∀{fs:List Field} {l:List (Nat×Nat)},fK P fs l=true→∀(f off ft:Nat),l[f]? =some (off,ft)→∃x,fs[f]? =some x∧x.offset=off∧x.type=ft∧∃i,P.info? ft=some i∧i.size≠0
 | [],[],_,f,off,ft,h=>by simp at h
 | x::fs,(off',ft')::l,hc,f,off,ft,h=>by
   simp only[fK,Bool.and_eq_true] at hc
   cases f with
   | zero=>
     simp only[List.getElem?_cons_zero,Option.some.injEq,Prod.mk.injEq] at h
     obtain⟨rfl,rfl⟩:=h
     refine⟨x,rfl,Nat.eq_of_beq_eq_true hc.1,Nat.eq_of_beq_eq_true hc.2.1,?_⟩
     have h3:=hc.2.2.1
     split at h3
     ·rename_i i hi
      refine⟨i,hi,fun e=> ?_⟩
      rw[e] at h3
      simp at h3
     ·cases h3
   | succ f=>exact gU hc.2.2.2 f off ft (by simpa using h)
theorem mN {P:Program}:∀{fs:List Field} {l:List (Nat×Nat)},fK P fs l=true→fs.map (fun f=>(f.offset,f.type))=l
 | [],[],_=>rfl
 | x::fs,(off',ft')::l,hc=>by
   simp only[fK,Bool.and_eq_true] at hc
   rw[List.map_cons,mN hc.2.2.2,Nat.eq_of_beq_eq_true hc.1,Nat.eq_of_beq_eq_true hc.2.1]
theorem ama {P:Program} {t:Nat} {a b c} (hd:P.underlying t=some (.func a b c)) (f:Nat) (fa fb) (w:World):(Op.equal t (.func (.func f) fa fb) .nilFunc).run P w=.ok false w∧(Op.equal t .nilFunc .nilFunc).run P w=.ok true w:=by
 unfold Op.equal
 have key:∀d x y,(Op.equalIn (d+1) t x y).run P w=_:=fun d x y=>by rw[Op.equalIn,Sem.run_bind,run_underlying hd]
 exact⟨(key 9999 _ _).trans rfl,(key 9999 _ _).trans rfl⟩
theorem bI {P:Program} {t:Nat} {i:TI} (h:ckTI P t i=true) (heq:i.eqok=true→∀vs us,aB vs i.zero→aB us i.zero→∀w,(Op.equal t (.agg vs.toArray) (.agg us.toArray)).run P w=.ok (eqVs vs us) w) (hgrd:i.eqok=true→P.eqGuardType P.depth t=false) (hkey:i.keyok=true→∀vs,aB vs i.zero→∀b w,(Instr.checkKey b 10000 t (.agg vs.toArray)).run P w=.ok () w):TIok P t i:=by
 unfold ckTI at h
 split at h
 ·rename_i inf d hinf hd
  simp only[Bool.and_eq_true] at h
  obtain⟨⟨⟨hmt,hkd⟩,hzs⟩,h1,h2,hby,h3⟩:=h
  have hsz:=Nat.eq_of_beq_eq_true h1
  have hti:∀w,(typeInfo t).run P w=.ok inf w:=fun w=>by simp[typeInfo,program,Sem.run_bind,Sem.run,hinf]
  obtain⟨z,hz,hz1,hz2⟩:∃z,inf.zero=some z∧sr i.zero z.cells.toList=true∧z.cells.toList.length=i.size:=by
   split at h2
   ·rename_i z hz
    rw[Bool.and_eq_true] at h2
    exact⟨z,hz,h2.1,Nat.eq_of_beq_eq_true h2.2⟩
   ·cases h2
  clear h1 h2
  refine⟨?_,fun w=>by simp[sizeOf,Sem.run_bind,hti,hsz],⟨z,fun w=>by simp[zeroValue,Sem.run_bind,hti,hz],fun ρ j=>mL ρ j hz1⟩,?_,?_,?_,?_,?_,⟨d,hd⟩,heq,hgrd,?_,?_,?_,fun k e hk=> ?_,fun hk=> ?_,fun hk=> ?_,hkey,fun z' hz'=> ?_,⟨inf,z,hinf,hsz,Nat.eq_of_beq_eq_true hby,hz,hz2,fun ρ j=>mL ρ j hz1⟩⟩
  ·intro w
   unfold isAgg
   rw[Sem.run_bind,run_underlying hd]
   cases d<;>simp_all
  ·intro f off ft hf w a
   cases d<;>simp_all
   rename_i fs
   obtain⟨x,hx,rfl,rfl,inf',hi,hne⟩:=gU (P:=P) h3.2.2.2.2.2.2 f off ft hf
   have hx':fs[f]? =some x:=by rw[←Array.getElem?_toList]; exact hx
   have hs:∀w,(sizeOf x.type).run P w=.ok inf'.size w:=fun w=>by simp[sizeOf,typeInfo,program,Sem.run_bind,Sem.run,hi]
   simp[Instr.fieldAt,run_underlying hd,Sem.run_bind,hx',Instr.sureAddr,fieldPlace,hs,hne]
  ·intro f off ft hf w cs
   cases d<;>simp_all
   rename_i fs
   obtain⟨x,hx,rfl,rfl,inf',hi,hne⟩:=gU (P:=P) h3.2.2.2.2.2.2 f off ft hf
   have hx':fs[f]? =some x:=by rw[←Array.getElem?_toList]; exact hx
   simp[Instr.field,run_underlying hd,Sem.run_bind,hx',asAgg]
  ·intro n e ha
   cases d<;>simp_all
  ·intro h1 h2
   cases d<;>simp_all
   exact mN (P:=P) h3.2.2.2.2
  ·intro k hk
   cases d<;>simp_all
   rw[av h3.2.2.1]
  ·intro hb
   cases d<;>simp_all
  ·intro e he
   cases d<;>simp_all
  ·intro hb f fa fb w
   cases d<;>simp_all
   exact ama hd f fa fb w
  ·rw[hk] at hmt
   dsimp only at hmt
   split at hmt
   ·simp only[Bool.and_eq_true] at hmt
    rw[hd,Nat.eq_of_beq_eq_true hmt.1,Nat.eq_of_beq_eq_true hmt.2]
   ·cases hmt
  ·simp only[hk] at hkd
   cases d<;>first | exact⟨_,hd⟩ | cases hkd
  ·simp only[hk] at hkd
   cases d<;>first | exact hd | cases hkd
  ·have e0:=hz' ⟨#[],fun _ _=>0,0,default,#[]⟩
   have e1:z'=z:=by
    simp[zeroValue,Sem.run_bind,hti,hz] at e0
    exact e0.symm
   subst e1
   rw[hz] at hzs
   cases z'<;>simp_all [Value.cells]
 ·cases h
end Go.Proofs.YtfkhblmeioiciaaGreatDoor
set_option linter.unusedVariables false
set_option linter.unusedSimpArgs false
namespace Go.Proofs.YtfkhblmeioiciaaGreatDoor
open Go.RowKit
theorem ap:∀{z z':List C} {vs:List Value},aW z z'=true→aB vs z→aB vs z'
 | [],[],vs,_,h=>h
 | .int k a::l,.int k' b::r,vs,hk,h=>by
   simp only[aW,Bool.and_eq_true] at hk
   obtain⟨x,us,rfl,h1,h2⟩:=ah h
   exact⟨av hk.1,h1,ap hk.2 h2⟩
 | .bool a::l,.bool b::r,vs,hk,h=>by
   simp only[aW] at hk
   obtain⟨x,us,rfl,h2⟩:=bS h
   exact ap (z:=l) (z':=r) hk h2
def bf:List Value→List Lit
 | .int k x::l=>.int k x::bf l
 | .bool b::l=>.bool b::bf l
 | _=>[]
theorem pI:∀{z:List C} {vs us:List Value},aB vs z→aB us z→(eqVs vs us=true↔bf vs=bf us)
 | [],vs,us,h,h'=>by rw[aM h,aM h']; simp[eqVs]
 | .int k e::r,vs,us,h,h'=>by
   obtain⟨x,l,rfl,_,h2⟩:=ah h
   obtain⟨y,m,rfl,_,g2⟩:=ah h'
   simp[eqVs,bf,pI h2 g2]
 | .bool e::r,vs,us,h,h'=>by
   obtain⟨x,l,rfl,h2⟩:=bS h
   obtain⟨y,m,rfl,g2⟩:=bS h'
   simp[eqVs,bf,pI h2 g2]
 | .yld _::_,vs,us,h,_ | .wn _ _ _ _ _::_,vs,us,h,_ | .aw _ _ _ _ _ _ _::_,vs,us,h,_ | .str _::_,vs,us,h,_ | .pe _ _ _ _ _ _::_,vs,us,h,_ | .nmp::_,vs,us,h,_ | .mp _::_,vs,us,h,_ | .itp _ _::_,vs,us,h,_ | .ptr _ _::_,vs,us,h,_ | .fp _ _::_,vs,us,h,_ | .fn _::_,vs,us,h,_ | .nilp::_,vs,us,h,_ | .undef::_,vs,us,h,_ | .sl _::_,vs,us,h,_ | .ep _ _ _ _::_,vs,us,h,_ | .nsl::_,vs,us,h,_ | .nilf::_,vs,us,h,_ | .clo _ _ _::_,vs,us,h,_=>by
   cases vs with
   | nil=>exact h.elim
   | cons v l=>cases v<;>exact h.elim
theorem fI {P:Program} {t:Nat} {z:List C} (hk:P.keyTypeAt 6 t=true) (hf:∀vs,aB vs z→(Value.agg vs.toArray).formed P t=true) (D:Nat) (hl:∀vs,aB vs z→P.keyLits D t vs=some (bf vs)) (vs us:List Value) (hv:aB vs z) (hu:aB us z) (w:World):
  (Op.equal t (.agg vs.toArray) (.agg us.toArray)).run P w=.ok (eqVs vs us) w:=by
 obtain⟨r,hr,hiff⟩:=run_equalIn_deep (P:=P) 9994 6 t hk w D D (.agg vs.toArray) (.agg us.toArray) _ _ (hf vs hv) (hf us hu) (by simpa[Value.cells] using hl vs hv) (by simpa[Value.cells] using hl us hu)
 unfold Op.equal Op.maxDepth
 rw[show(10000:Nat)=9994+6 from rfl,hr]
 congr 1
 rw[Bool.eq_iff_iff,hiff,pI hv hu]
theorem cM {f:Nat→TI→Bool} {l:List (Nat×TI)} (h:(l.all fun p=>f p.1 p.2)=true) {t:Nat} {i:TI} (hm:(t,i)∈l):f t i=true:=List.all_eq_true.1 h (t,i) hm
structure Ini where
 vk:List VK
 rows:List RowOb
 fb:List (List C)
def iniC (v id:Nat):CK→C×List VK×List RowOb
 | .int k=>(.int k (.var v),[.int k],[])
 | .bool=>(.bool (.bvar v),[.bool],[])
 | .fn g=>(.fn g,[],[])
 | .lit k z=>(.int k (.lit z),[],[])
 | .sl ks ty=>(.sl id,[.list ks],[⟨ks,ty,.lvar v,false,kdOf ks⟩])
 | .nilf=>(.nilf,[],[])
 | .any=>(.undef,[],[])
 | .rl ks ty L=>(.sl id,[],[⟨ks,ty,rlE ks .lnil L,false,kdOf ks⟩])
 | .el ks ty=>(.ep id ks.length (.lit 0) 0,[.list ks],[⟨ks,ty,.lvar v,false,kdOf ks⟩])
def iniL (v id:Nat):List CK→List C×List VK×List RowOb
 | []=>([],[],[])
 | k::ks=>let x:=iniC v id k; let y:=iniL (v+x.2.1.length) (id+x.2.2.length) ks; (x.1::y.1,x.2.1++y.2.1,x.2.2++y.2.2)
def iniA (v id fid:Nat):List Sh→List V×List VK×List RowOb×List (List C)
 | []=>([],[],[],[])
 | .one k::ss=>let x:=iniC v id k; let y:=iniA (v+x.2.1.length) (id+x.2.2.length) fid ss; (.one x.1::y.1,x.2.1++y.2.1,x.2.2++y.2.2.1,y.2.2.2)
 | .agg ks::ss=>let x:=iniL v id ks; let y:=iniA (v+x.2.1.length) (id+x.2.2.length) fid ss; (.agg x.1::y.1,x.2.1++y.2.1,x.2.2++y.2.2.1,y.2.2.2)
 | .ptr ks::ss=>let x:=iniL v id ks; let y:=iniA (v+x.2.1.length) (id+x.2.2.length) (fid+1) ss; (.one (.fp fid 0)::y.1,x.2.1++y.2.1,x.2.2++y.2.2.1,x.1::y.2.2.2)
def ckOk:CK→Bool
 | .sl ks _=>decide (0<ks.length)
 | .el ks _=>decide (0<ks.length) &&!bB ks evKs
 | .any=>false
 | _=>true
def alh:CK→Bool
 | .any=>true
 | k=>ckOk k
def adW:Sh→Bool
 | .ptr ks=>ks.all alh
 | s=>s.cks.all ckOk
def shOk (ss:List Sh):Bool:=ss.all adW
section
variable {P:Program} {sp:Spec} {ρ:Env} {w:World}
theorem qg {ρ:Env}:∀(a b:List VK) (v:Nat),af ρ v (a++b)=af ρ v a++af ρ (v+a.length) b
 | [],b,v=>rfl
 | k::a,b,v=>by
   simp only[List.cons_append,af,qg a b (v+1),List.length_cons]
   rw[show v+1+a.length=v+(a.length+1) by omega]
theorem jW {ρ:Env}:∀(a:List VK) (v:Nat),(af ρ v a).length=a.length
 | [],v=>rfl
 | k::a,v=>by simp[af,jW a (v+1)]
theorem wx:∀{a b:List VK} {x y:List Dt},okDs a x→okDs b y→okDs (a++b) (x++y)
 | [],b,[],y,_,h=>h
 | k::a,b,d::x,y,h,h'=>⟨h.1,wx h.2 h'⟩
 | [],b,_::_,y,h,_=>h.elim
 | k::a,b,[],y,h,_=>by cases k<;>exact h.elim
theorem ww:∀{a:List VK} {x:List Dt},okDs a x→x.length=a.length
 | [],[],_=>rfl
 | k::a,d::x,h=>by simp[ww h.2]
 | [],_::_,h=>h.elim
 | k::a,[],h=>by cases k<;>exact h.elim
theorem alq (b:Bool):b2i b=0∨b2i b=1:=by cases b<;>simp[b2i]
structure ArgOk (w:World) (v id:Nat) (vk:List VK) (rows:List RowOb) (d:List Dt) (svs:List SV) (den:Env→J→Prop):Prop where
 len:svs.length=rows.length
 zz:∀s∈svs,∀p∈s.z,w.heap[p.1]? =some p.2∧isCl p.2=true
 ok:okDs vk d
 at':∀(ρ:Env) (j:J),af ρ v vk=d→(∀(i:Nat) s,svs[i]? =some s→j.s (id+i)=some s)→den ρ j∧∀(i:Nat) s q,svs[i]? =some s→rows[i]? =some q→q.own=false∧∀base,RowOk ρ base w s q
def evZ (w:World):List SV→List (Nat×Obj)
 | []=>[]
 | x::l=>(match x.blk false with
   | some k=>(match w.heap[k]? with | some o=>[(k,o)] | none=>[])
   | none=>[])++evZ w l
theorem agu:∀{ins:List SV},(∀x∈ins,∀k,x.blk false=some k→∃o,w.heap[k]? =some o∧isCl o=true)→∀p∈evZ w ins,w.heap[p.1]? =some p.2∧isCl p.2=true
 | [],_,p,hp=>by cases hp
 | x::l,h,p,hp=>by
   simp only[evZ,List.mem_append] at hp
   rcases hp with hp | hp
   ·cases hb:x.blk false with
    | none=>rw[hb] at hp; cases hp
    | some k=>
      obtain⟨o,h1,h2⟩:=h x List.mem_cons_self k hb
      rw[hb] at hp
      simp only[h1,List.mem_singleton] at hp
      subst hp
      exact⟨h1,h2⟩
   ·exact agu (fun y hy=>h y (List.mem_cons_of_mem _ hy)) p hp
theorem agv:∀{ins:List SV} {x:SV},x∈ins→∀p∈evZ w [x],p∈evZ w ins
 | y::l,x,h,p,hp=>by
   rcases List.mem_cons.1 h with rfl | h
   ·simp only[evZ,List.append_nil] at hp
    simp only[evZ,List.mem_append]
    exact .inl hp
   ·have:=agv h p hp
    simp only[evZ,List.mem_append]
    exact .inr this
theorem EvIn.ei {row:List Int} {x:SV} {z:List (Nat×Obj)} (h:EvIn w row x) (hz:∀p∈evZ w [x],p∈z):EiOk z row x:=by
 have blk:∀k,x.blk false=some k→∃o,(k,o)∈z∧w.heap[k]? =some o:=fun k hk=>by
  obtain⟨o,h1,h2⟩:=h.blk k hk
  exact⟨o,hz _ (by simp[evZ,hk,h1]),h1⟩
 refine⟨h.n,h.most,h.rest,fun w' hw=>h.rd.kept (fun k hk=> ?_),fun k hk=> ?_⟩
 ·obtain⟨o,h1,h2⟩:=blk k hk
  rw[h2]; exact hw _ h1
 ·obtain⟨o,h1,_⟩:=blk k hk
  exact⟨o,h1⟩
theorem uu {k:CK} {xs r:List Dt} {u:Value} (hk:ckOk k=true) (h:su w k xs u r) (v id:Nat):∃d svs,xs=d++r∧ArgOk w v id (iniC v id k).2.1 (iniC v id k).2.2 d svs (fun ρ j=>(iniC v id k).1.den ρ j=some u):=by
 cases k with
 | int k=>
   obtain⟨x,rfl,rfl,hx⟩:=h
   refine⟨[.z x],[],rfl,rfl,fun s hs=>(by cases hs),⟨hx,trivial⟩,fun ρ j hd _=>⟨?_,fun i s q hs=>by simp at hs⟩⟩
   simp only[iniC,af,varD,List.cons.injEq,Dt.z.injEq,and_true] at hd
   simp[iniC,C.den,E.I,hd]
 | bool=>
   obtain⟨b,rfl,rfl⟩:=h
   refine⟨[.z (b2i b)],[],rfl,rfl,fun s hs=>(by cases hs),⟨alq b,trivial⟩,fun ρ j hd _=>⟨?_,fun i s q hs=>by simp at hs⟩⟩
   simp only[iniC,af,varD,List.cons.injEq,Dt.z.injEq,and_true] at hd
   simp[iniC,C.den,E.B,uN hd]
 | fn g=>obtain⟨rfl,rfl⟩:=h; exact⟨[],[],rfl,rfl,fun s hs=>(by cases hs),trivial,fun ρ j _ _=>⟨rfl,fun i s q hs=>by simp at hs⟩⟩
 | lit k z=>obtain⟨rfl,rfl⟩:=h; exact⟨[],[],rfl,rfl,fun s hs=>(by cases hs),trivial,fun ρ j _ _=>⟨rfl,fun i s q hs=>by simp at hs⟩⟩
 | nilf=>obtain⟨rfl,rfl⟩:=h; exact⟨[],[],rfl,rfl,fun s hs=>(by cases hs),trivial,fun ρ j _ _=>⟨rfl,fun i s q hs=>by simp at hs⟩⟩
 | any=>cases hk
 | el ks ty=>
   obtain⟨row,p,rfl,rfl,hrow,hlt,hcell⟩:=h
   have hL:RowsIn ks [row]:=⟨fun r hr=>(by rw[List.mem_singleton.1 hr]; exact hrow),by simp[maxLen]⟩
   simp only[ckOk,Bool.and_eq_true,decide_eq_true_eq,Bool.not_eq_true'] at hk
   have hkd:kdOf ks=.sl:=by
    rcases bk ks with⟨h1,_⟩ | ⟨_,h1⟩
    ·rw[h1] at hk; exact absurd hk.2 (by decide)
    ·exact h1
   have hp0:p.add 0=p:=by unfold Addr.add; split<;>simp_all
   refine⟨[.l [row]],[⟨some p,1,1,[]⟩],rfl,rfl,fun s' hs'=>(by rw[List.mem_singleton.1 hs']; intro p hp; cases hp),⟨hL,trivial⟩,fun ρ j hd hs=>⟨?_,fun i s' q hs' hq=> ?_⟩⟩
   ·have:=hs 0 _ rfl
    simp only[Nat.add_zero] at this
    simp[iniC,C.den,this,SV.elem,E.I,hp0]
   ·simp only[iniC,af,varD,List.cons.injEq,Dt.l.injEq,and_true] at hd
    cases i with
    | succ i=>simp at hs'
    | zero=>
      simp only[iniC,List.getElem?_cons_zero,Option.some.injEq] at hs' hq
      subst hs' hq
      refine⟨rfl,fun base=>SlOk.row ⟨?_,?_,hk.1,fun k hb=> ?_,fun ho=>(by cases ho),?_⟩ hkd⟩
      ·simp only[E.R,hd]; rfl
      ·simp only[E.R,hd]; exact hL
      ·have hb:=aC hb
       simp only[SV.v,Value.ownBlock,Option.some.injEq] at hb
       subst hb
       exact hlt
      ·simp only[E.R,hd]
       refine⟨by rw[aY hL.row]; rfl,Nat.le_refl _,by simp[maxLen],fun h=>(by cases h),fun a ha i u hu=> ?_⟩
       cases ha
       exact hcell i u hu
 | rl ks ty L=>
   obtain⟨rfl,hok,s,rfl,hn,hrd,hlt⟩:=h
   refine⟨[],[{s with z:=[]}],rfl,rfl,fun s' hs'=>(by rw[List.mem_singleton.1 hs']; intro p hp; cases hp),trivial,fun ρ j hd hs=>⟨?_,fun i s' q hs' hq=> ?_⟩⟩
   ·have:=hs 0 _ rfl
    simp only[Nat.add_zero] at this
    show(j.s id).map SV.v=_
    rw[this]; rfl
   ·obtain⟨hR,hrows,hp,hkd⟩:=tZ (ρ:=ρ) hok
    unfold TRow at hrd
    rw[hkd] at hrd
    cases i with
    | succ i=>simp at hs'
    | zero=>
      simp only[iniC,List.getElem?_cons_zero,Option.some.injEq] at hs' hq
      subst hs' hq
      refine⟨rfl,fun base=>SlOk.row ⟨?_,?_,hp,hlt,fun ho=>(by cases ho),?_⟩ hkd⟩
      ·simp only[hR]; exact hn
      ·simp only[hR]; exact hrows
      ·simp only[hR]; exact hrd
 | sl ks ty=>
   obtain⟨L,s,rfl,rfl,hn,hrd,hrows,hlt⟩:=h
   unfold TRow at hrd
   rcases bk ks with⟨hks,hkd⟩ | ⟨_,hkd⟩
   ·rw[hkd] at hrd
    obtain⟨ins,hi1,hi2,hi3⟩:=hrd
    have hblk:∀x∈ins,∀k,x.blk false=some k→∃o,w.heap[k]? =some o∧isCl o=true:=fun x hx=>by
     obtain⟨i,hi⟩:=List.getElem?_of_mem hx
     have hlt:i<L.length:=by rw[←hi1]; exact(List.getElem?_eq_some_iff.1 hi).1
     exact(hi3 i L[i] x (List.getElem?_eq_getElem hlt) hi).blk
    refine⟨[.l L],[{s with z:=evZ w ins}],rfl,rfl,fun s' hs'=>(by rw[List.mem_singleton.1 hs']; exact agu hblk),⟨hrows,trivial⟩,fun ρ j hd hs=>⟨?_,fun i s' q hs' hq=> ?_⟩⟩
    ·have:=hs 0 _ rfl
     simp only[Nat.add_zero] at this
     show(j.s id).map SV.v=_
     rw[this]; rfl
    ·simp only[iniC,af,varD,List.cons.injEq,Dt.l.injEq,and_true] at hd
     cases i with
     | succ i=>simp at hs'
     | zero=>
       simp only[iniC,List.getElem?_cons_zero,Option.some.injEq] at hs' hq
       subst hs' hq
       refine⟨rfl,fun base=>EvOk.row ⟨hks,?_,?_,hlt,fun ho=>(by cases ho),ins,?_,fun ho=>(by cases ho),?_,fun i row x hr hx=> ?_⟩ hkd⟩
       ·simp only[E.R,hd]; exact hn
       ·simp only[E.R,hd]; exact hrows
       ·simp only[E.R,hd]; exact hi1
       ·simp only[E.R,hd]; exact hi2
       ·simp only[E.R,hd] at hr
        exact(hi3 i row x hr hx).ei (fun p hp=>(agv (List.mem_of_getElem? hx)) p hp)
   ·rw[hkd] at hrd
    refine⟨[.l L],[{s with z:=[]}],rfl,rfl,fun s' hs'=>(by rw[List.mem_singleton.1 hs']; intro p hp; cases hp),⟨hrows,trivial⟩,fun ρ j hd hs=>⟨?_,fun i s' q hs' hq=> ?_⟩⟩
    ·have:=hs 0 _ rfl
     simp only[Nat.add_zero] at this
     show(j.s id).map SV.v=_
     rw[this]; rfl
    ·simp only[iniC,af,varD,List.cons.injEq,Dt.l.injEq,and_true] at hd
     cases i with
     | succ i=>simp at hs'
     | zero=>
       simp only[iniC,List.getElem?_cons_zero,Option.some.injEq] at hs' hq
       subst hs' hq
       refine⟨rfl,fun base=>SlOk.row ⟨?_,?_,of_decide_eq_true hk,hlt,fun ho=>(by cases ho),?_⟩ hkd⟩
       ·simp only[E.R,hd]; exact hn
       ·simp only[E.R,hd]; exact hrows
       ·simp only[E.R,hd]; exact hrd
theorem ArgOk.app {v id:Nat} {vk1 vk2:List VK} {rows1 rows2:List RowOb} {d1 d2:List Dt} {s1 s2:List SV} {den1 den2:Env→J→Prop} (h1:ArgOk w v id vk1 rows1 d1 s1 den1) (h2:ArgOk w (v+vk1.length) (id+rows1.length) vk2 rows2 d2 s2 den2):
  ArgOk w v id (vk1++vk2) (rows1++rows2) (d1++d2) (s1++s2) (fun ρ j=>den1 ρ j∧den2 ρ j):=by
 refine⟨by simp[h1.len,h2.len],fun s hs=>(List.mem_append.1 hs).elim (h1.zz s) (h2.zz s),wx h1.ok h2.ok,fun ρ j hd hs=> ?_⟩
 rw[qg] at hd
 obtain⟨e1,e2⟩:=List.append_inj hd (by rw[jW,ww h1.ok])
 obtain⟨a1,a2⟩:=h1.at' ρ j e1 (fun i s hi=>hs i s (by rw[List.getElem?_append_left (List.getElem?_eq_some_iff.1 hi).1]; exact hi))
 obtain⟨b1,b2⟩:=h2.at' ρ j e2 (fun i s hi=>by
  have:=hs (s1.length+i) s (by rw[List.getElem?_append_right (by omega),Nat.add_sub_cancel_left]; exact hi)
  rw[h1.len] at this
  rwa [Nat.add_assoc])
 refine⟨⟨a1,b1⟩,fun i s q hi hq=> ?_⟩
 rcases Nat.lt_or_ge i s1.length with hlt | hge
 ·rw[List.getElem?_append_left hlt] at hi
  rw[List.getElem?_append_left (by rw[←h1.len]; exact hlt)] at hq
  exact a2 i s q hi hq
 ·rw[List.getElem?_append_right hge] at hi
  rw[List.getElem?_append_right (by rw[←h1.len]; exact hge),←h1.len] at hq
  exact b2 _ s q hi hq
theorem acO:∀{ks:List CK} {xs r:List Dt} {us:List Value},ks.all ckOk=true→dl w ks xs us r→∀(v id:Nat),∃d svs,xs=d++r∧ArgOk w v id (iniL v id ks).2.1 (iniL v id ks).2.2 d svs (fun ρ j=>denL ρ j (iniL v id ks).1=some us)
 | [],xs,r,us,_,h,v,id=>by
   obtain⟨rfl,rfl⟩:=h
   exact⟨[],[],rfl,rfl,fun s hs=>(by cases hs),trivial,fun ρ j _ _=>⟨rfl,fun i s q hs=>by simp at hs⟩⟩
 | k::ks,xs,r,us,hk,h,v,id=>by
   simp only[List.all_cons,Bool.and_eq_true] at hk
   obtain⟨u,us',r',rfl,h1,h2⟩:=h
   obtain⟨d1,s1,rfl,g1⟩:=uu hk.1 h1 v id
   obtain⟨d2,s2,rfl,g2⟩:=acO hk.2 h2 (v+(iniC v id k).2.1.length) (id+(iniC v id k).2.2.length)
   refine⟨d1++d2,s1++s2,by simp,?_⟩
   obtain⟨q1,qz,q2,q3⟩:=g1.app g2
   refine⟨q1,qz,q2,fun ρ j hd hs=> ?_⟩
   obtain⟨⟨a1,a2⟩,a3⟩:=q3 ρ j hd hs
   exact⟨by simp only[iniL,denL,a1,a2],a3⟩
def FbAt (w:World) (ρ:Env) (j:J) (fb:List (List C)) (fid:Nat) (fks:List Nat):Prop:=
 ∀(b:Nat) cs,fb[b]? =some cs→∃k vs,fks[b]? =some k∧k<w.heap.size∧denL ρ j cs=some vs∧∀(o:Nat) u,vs[o]? =some u→eO cs o=true→w.cell? ⟨k,o,none⟩=some u
theorem ut:∀{ks:List CK} {xs r:List Dt} {us:List Value},ks.all alh=true→dl w ks xs us r→∀(v id:Nat),∃d svs us',xs=d++r∧ArgOk w v id (iniL v id ks).2.1 (iniL v id ks).2.2 d svs (fun ρ j=>denL ρ j (iniL v id ks).1=some us')∧∀(o:Nat) u,us'[o]? =some u→eO (iniL v id ks).1 o=true→us[o]? =some u
 | [],xs,r,us,_,h,v,id=>by
   obtain⟨rfl,rfl⟩:=h
   exact⟨[],[],[],rfl,⟨rfl,fun s hs=>(by cases hs),trivial,fun ρ j _ _=>⟨rfl,fun i s q hs=>by simp at hs⟩⟩,fun o u hu=>by simp at hu⟩
 | k::ks,xs,r,us,hk,h,v,id=>by
   simp only[List.all_cons,Bool.and_eq_true] at hk
   obtain⟨u,us1,r',rfl,h1,h2⟩:=h
   by_cases hany:k=.any
   ·subst hany
    have e1:xs=r':=h1
    subst e1
    obtain⟨d2,s2,us2,rfl,g2,g3⟩:=ut hk.2 h2 v id
    refine⟨d2,s2,Go.undef::us2,rfl,?_,fun o u' hu hs=> ?_⟩
    ·obtain⟨q1,qz,q2,q3⟩:=g2
     refine⟨q1,qz,q2,fun ρ j hd hs=> ?_⟩
     obtain⟨a1,a2⟩:=q3 ρ j hd hs
     exact⟨by simp only[iniL,iniC,denL,C.den]; simp only[List.length_nil,Nat.add_zero]; rw[a1],a2⟩
    ·cases o with
     | zero=>cases hs
     | succ o=>simpa using g3 o u' (by simpa using hu) hs
   ·have hk1:ckOk k=true:=by
     have:=hk.1
     cases k<;>first | exact this | exact absurd rfl hany
    obtain⟨d1,s1,rfl,g1⟩:=uu hk1 h1 v id
    obtain⟨d2,s2,us2,rfl,g2,g3⟩:=ut hk.2 h2 (v+(iniC v id k).2.1.length) (id+(iniC v id k).2.2.length)
    refine⟨d1++d2,s1++s2,u::us2,by simp,?_,fun o u' hu hs=> ?_⟩
    ·obtain⟨q1,qz,q2,q3⟩:=g1.app g2
     refine⟨q1,qz,q2,fun ρ j hd hs=> ?_⟩
     obtain⟨⟨a1,a2⟩,a3⟩:=q3 ρ j hd hs
     exact⟨by simp only[iniL,denL,a1,a2],a3⟩
    ·cases o with
     | zero=>simpa using hu
     | succ o=>simpa using g3 o u' (by simpa using hu) hs
theorem pL:∀{ss:List Sh} {xs:List Dt} {vals:List Value},shOk ss=true→jj w ss xs vals→∀(v id fid:Nat),∃svs fks,fks.length=(iniA v id fid ss).2.2.2.length∧(iniA v id fid ss).1.length=vals.length∧ArgOk w v id (iniA v id fid ss).2.1 (iniA v id fid ss).2.2.1 xs svs (fun ρ j=>(∀(i:Nat) k,fks[i]? =some k→j.f (fid+i)=some k)→(∀(i:Nat) x,(iniA v id fid ss).1[i]? =some x→∃u,vals[i]? =some u∧x.den ρ j=some u)∧FbAt w ρ j (iniA v id fid ss).2.2.2 fid fks)
 | [],xs,vals,_,h,v,id,fid=>by
   obtain⟨rfl,rfl⟩:=h
   exact⟨[],[],rfl,rfl,rfl,fun s hs=>(by cases hs),trivial,fun ρ j _ _=>⟨fun _=>⟨fun i x hx=>by simp[iniA] at hx,fun b cs hb=>by simp[iniA] at hb⟩,fun i s q hs=>by simp at hs⟩⟩
 | .one k::ss,xs,vals,hk,h,v,id,fid=>by
   simp only[shOk,adW,List.all_cons,Bool.and_eq_true,Sh.cks,List.all_nil,Bool.and_true] at hk
   obtain⟨u,us,r,rfl,h1,h2⟩:=h
   obtain⟨d1,s1,rfl,g1⟩:=uu hk.1 h1 v id
   obtain⟨s2,fks,hf,hl,g2⟩:=pL (ss:=ss) hk.2 h2 (v+(iniC v id k).2.1.length) (id+(iniC v id k).2.2.length) fid
   obtain⟨q1,qz,q2,q3⟩:=g1.app g2
   refine⟨s1++s2,fks,hf,by simp[iniA,hl],q1,qz,q2,fun ρ j hd hs=> ?_⟩
   obtain⟨⟨a1,a2⟩,a3⟩:=q3 ρ j hd hs
   refine⟨fun hj=> ?_,a3⟩
   obtain⟨b1,b2⟩:=a2 hj
   refine⟨fun i x hx=> ?_,b2⟩
   cases i with
   | zero=>simp only[iniA,List.getElem?_cons_zero,Option.some.injEq] at hx; subst hx; exact⟨u,rfl,a1⟩
   | succ i=>exact b1 i x (by simpa[iniA] using hx)
 | .agg ks::ss,xs,vals,hk,h,v,id,fid=>by
   simp only[shOk,adW,List.all_cons,Bool.and_eq_true,Sh.cks] at hk
   obtain⟨ws,us,r,rfl,h1,h2⟩:=h
   obtain⟨d1,s1,rfl,g1⟩:=acO hk.1 h1 v id
   obtain⟨s2,fks,hf,hl,g2⟩:=pL (ss:=ss) hk.2 h2 (v+(iniL v id ks).2.1.length) (id+(iniL v id ks).2.2.length) fid
   obtain⟨q1,qz,q2,q3⟩:=g1.app g2
   refine⟨s1++s2,fks,hf,by simp[iniA,hl],q1,qz,q2,fun ρ j hd hs=> ?_⟩
   obtain⟨⟨a1,a2⟩,a3⟩:=q3 ρ j hd hs
   refine⟨fun hj=> ?_,a3⟩
   obtain⟨b1,b2⟩:=a2 hj
   refine⟨fun i x hx=> ?_,b2⟩
   cases i with
   | zero=>simp only[iniA,List.getElem?_cons_zero,Option.some.injEq] at hx; subst hx; exact⟨_,rfl,by simp[V.den,a1]⟩
   | succ i=>exact b1 i x (by simpa[iniA] using hx)
 | .ptr ks::ss,xs,vals,hk,h,v,id,fid=>by
   simp only[shOk,adW,List.all_cons,Bool.and_eq_true] at hk
   obtain⟨kk,ws,us,r,rfl,h1,hlt,hcell,h2⟩:=h
   obtain⟨d1,s1,ws',rfl,g1,gw⟩:=ut hk.1 h1 v id
   obtain⟨s2,fks,hf,hl,g2⟩:=pL (ss:=ss) hk.2 h2 (v+(iniL v id ks).2.1.length) (id+(iniL v id ks).2.2.length) (fid+1)
   obtain⟨q1,qz,q2,q3⟩:=g1.app g2
   refine⟨s1++s2,kk::fks,by simp[iniA,hf],by simp[iniA,hl],q1,qz,q2,fun ρ j hd hs=> ?_⟩
   obtain⟨⟨a1,a2⟩,a3⟩:=q3 ρ j hd hs
   refine⟨fun hj=> ?_,a3⟩
   obtain⟨b1,b2⟩:=a2 (fun i k hi=>by
    have:=hj (i+1) k (by simpa using hi)
    rwa [show fid+(i+1)=fid+1+i by omega] at this)
   refine⟨fun i x hx=> ?_,fun b cs hb=> ?_⟩
   ·cases i with
    | zero=>
      simp only[iniA,List.getElem?_cons_zero,Option.some.injEq] at hx
      subst hx
      have:=hj 0 kk rfl
      rw[Nat.add_zero] at this
      exact⟨_,rfl,by simp[V.den,C.den,this]⟩
    | succ i=>exact b1 i x (by simpa[iniA] using hx)
   ·cases b with
    | zero=>
      simp only[iniA,List.getElem?_cons_zero,Option.some.injEq] at hb
      subst hb
      exact⟨kk,ws',rfl,hlt,a1,fun o u hu hs=>hcell o u (gw o u hu hs)⟩
    | succ b=>exact b2 b cs (by simpa[iniA] using hb)
theorem cP (w:World) (o:Obj):w.heap.size<(w.alloc o).heap.size:=by
 have h:=heap_alloc_new w o
 rcases Nat.lt_or_ge w.heap.size (w.alloc o).heap.size with h1 | h1
 ·exact h1
 ·rw[Array.getElem?_eq_none h1] at h; cases h
theorem EvIn.mono {w':World} (hx:Ext w w') {row:List Int} {x:SV} (h:EvIn w row x):EvIn w' row x:=by
 have lt:∀k,x.blk false=some k→k<w.heap.size:=fun k hk=>by
  obtain⟨o,h1,_⟩:=h.blk k hk
  exact(Array.getElem?_eq_some_iff.1 h1).1
 refine⟨h.n,h.most,h.rest,h.rd.kept (fun k hk=>hx.block k (lt k hk)),fun k hk=> ?_⟩
 obtain⟨o,h1,h2⟩:=h.blk k hk
 exact⟨o,by rw[hx.block k (lt k hk)]; exact h1,h2⟩
theorem TRow.mono {w':World} (hx:Ext w w') {ks:List CE} {s:SV} {L:List (List Int)} (h:TRow w ks s L) (hb:∀k,s.blk false=some k→k<w.heap.size):TRow w' ks s L:=by
 unfold TRow at h ⊢
 split
 ·rename_i hk
  rw[hk] at h
  obtain⟨ins,h1,h2,h3⟩:=h
  exact⟨ins,h1,h2.kept (fun k hk=>hx.block k (hb k hk)),fun i row x hr hi=>(h3 i row x hr hi).mono hx⟩
 ·rename_i hk
  rcases bk ks with⟨_,h1⟩ | ⟨_,h1⟩
  ·exact absurd h1 hk
  ·rw[h1] at h
   exact h.kept (fun k hk=>hx.block k (hb k hk))
theorem jO {w':World} (hx:Ext w w') {k:CK} {xs r:List Dt} {u:Value} (h:su w k xs u r):su w' k xs u r:=by
 cases k with
 | sl ks ty=>
   obtain⟨L,s,h1,h2,h3,h4,h5,h6⟩:=h
   exact⟨L,s,h1,h2,h3,h4.mono hx h6,h5,fun k hk=>Nat.lt_of_lt_of_le (h6 k hk) hx.size⟩
 | el ks ty=>
   obtain⟨row,p,h1,h2,h3,h4,h5⟩:=h
   refine⟨row,p,h1,h2,h3,Nat.lt_of_lt_of_le h4 hx.size,fun c u hu=> ?_⟩
   rw[World.cell?_of_block (a:=p.add c) (hx.block _ (by unfold Addr.add; split<;>exact h4))]
   exact h5 c u hu
 | rl ks ty L=>
   obtain⟨h1,h2,s,h3,h4,h5,h6⟩:=h
   exact⟨h1,h2,s,h3,h4,h5.mono hx h6,fun k hk=>Nat.lt_of_lt_of_le (h6 k hk) hx.size⟩
 | _=>exact h
theorem gT {w':World} (hx:Ext w w'):∀{ks:List CK} {xs r:List Dt} {us:List Value},dl w ks xs us r→dl w' ks xs us r
 | [],_,_,_,h=>h
 | k::ks,xs,r,us,h=>by
   obtain⟨u,us',r',h1,h2,h3⟩:=h
   exact⟨u,us',r',h1,jO hx h2,gT hx h3⟩
def Lens (xs:List Dt):Prop:=∀L,Dt.l L∈xs→L.length≤maxLen
theorem Lens.tail {d:Dt} {xs:List Dt} (h:Lens (d::xs)):Lens xs:=fun L hL=>h L (List.mem_cons_of_mem _ hL)
def uB:CK→Bool
 | .sl ks _=>!bB ks evKs
 | _=>true
theorem xi {k:CK} {xs r:List Dt} (hv:uB k=true) (h:ckIn k xs r) (hl:Lens xs) (w:World):∃w' u,Ext w w'∧su w' k xs u r∧Lens r:=by
 cases k with
 | int k=>obtain⟨x,rfl,hx⟩:=h; exact⟨w,_,.refl w,⟨x,rfl,rfl,hx⟩,hl.tail⟩
 | bool=>obtain⟨b,rfl⟩:=h; exact⟨w,_,.refl w,⟨b,rfl,rfl⟩,hl.tail⟩
 | fn g=>exact⟨w,_,.refl w,⟨h,rfl⟩,by rw[←show xs=r from h]; exact hl⟩
 | lit k z=>exact⟨w,_,.refl w,⟨h,rfl⟩,by rw[←show xs=r from h]; exact hl⟩
 | nilf=>exact⟨w,_,.refl w,⟨h,rfl⟩,by rw[←show xs=r from h]; exact hl⟩
 | any=>exact⟨w,Go.undef,.refl w,h,by rw[←show xs=r from h]; exact hl⟩
 | el ks ty=>
   obtain⟨row,rfl,hrow⟩:=h
   refine⟨w.alloc (.cells (flat ks [row]).toArray ty),.pointer (some ⟨w.heap.size,0,none⟩),(Ext.refl w).alloc _,⟨row,_,rfl,rfl,hrow,cP w _,fun c u hu=> ?_⟩,hl.tail⟩
   have:(⟨w.heap.size,0,none⟩:Addr).add c=⟨w.heap.size,c,none⟩:=by unfold Addr.add; split<;>simp_all
   rw[this,fL (heap_alloc_new w _)]
   exact hu
 | rl ks ty L=>
   obtain⟨rfl,hok⟩:=h
   obtain⟨_,hL,hp,hkd⟩:=tZ (ρ:=⟨fun _=>0,fun _=>false,fun _=>[]⟩) hok
   have hT:∀w' s,RdRow w' ks.length s (flat ks L)→TRow w' ks s L:=fun w' s h=>by
    unfold TRow
    rw[hkd]; exact h
   refine⟨w.alloc (.cells (flat ks L).toArray ty),(SV.mk (some ⟨w.heap.size,0,none⟩) L.length L.length []).v,(Ext.refl w).alloc _,⟨rfl,hok,⟨some ⟨w.heap.size,0,none⟩,L.length,L.length,[]⟩,rfl,rfl,hT _ _ ⟨aY hL.row,Nat.le_refl _,hL.len,fun h=>(by cases h),fun a ha i u hu=> ?_⟩,fun k hk=> ?_⟩,hl⟩
   ·cases ha
    have:(⟨w.heap.size,0,none⟩:Addr).add i=⟨w.heap.size,i,none⟩:=by unfold Addr.add; split<;>simp_all
    rw[this,fL (heap_alloc_new w _)]
    exact hu
   ·have hk:=aC hk
    simp only[SV.v,Value.ownBlock,Option.some.injEq] at hk
    subst hk
    exact cP w _
 | sl ks ty=>
   obtain⟨L,rfl,hL⟩:=h
   have hlen:L.length≤maxLen:=hl L List.mem_cons_self
   have hT:∀w' s,RdRow w' ks.length s (flat ks L)→TRow w' ks s L:=fun w' s h=>by
    unfold TRow
    rcases bk ks with⟨h1,_⟩ | ⟨_,h1⟩
    ·rw[h1] at hv; cases hv
    ·rw[h1]; exact h
   refine⟨w.alloc (.cells (flat ks L).toArray ty),(SV.mk (some ⟨w.heap.size,0,none⟩) L.length L.length []).v,(Ext.refl w).alloc _,⟨L,⟨some ⟨w.heap.size,0,none⟩,L.length,L.length,[]⟩,rfl,rfl,rfl,hT _ _ ⟨aY hL,Nat.le_refl _,hlen,fun h=>(by cases h),fun a ha i u hu=> ?_⟩,⟨hL,hlen⟩,fun k hk=> ?_⟩,hl.tail⟩
   ·cases ha
    have:(⟨w.heap.size,0,none⟩:Addr).add i=⟨w.heap.size,i,none⟩:=by unfold Addr.add; split<;>simp_all
    rw[this,fL (heap_alloc_new w _)]
    exact hu
   ·have hk:=aC hk
    simp only[SV.v,Value.ownBlock,Option.some.injEq] at hk
    subst hk
    exact cP w _
theorem mM:∀{ks:List CK} {xs r:List Dt},ks.all uB=true→yC ks xs r→Lens xs→∀(w:World),∃w' us,Ext w w'∧dl w' ks xs us r∧Lens r
 | [],xs,r,_,h,hl,w=>⟨w,[],.refl w,⟨h,rfl⟩,by rw[←show xs=r from h]; exact hl⟩
 | k::ks,xs,r,hv,h,hl,w=>by
   simp only[List.all_cons,Bool.and_eq_true] at hv
   obtain⟨r',h1,h2⟩:=h
   obtain⟨w1,u,e1,g1,l1⟩:=xi hv.1 h1 hl w
   obtain⟨w2,us,e2,g2,l2⟩:=mM hv.2 h2 l1 w1
   exact⟨w2,u::us,e1.trans e2,⟨u,us,r',rfl,jO e2 g1,g2⟩,l2⟩
def km (ss:List Sh):Bool:=ss.all fun s=>s.cks.all uB
theorem fN:∀{ss:List Sh} {xs:List Dt},km ss=true→ady ss xs→Lens xs→∀(w:World),∃w' vals,Ext w w'∧jj w' ss xs vals
 | [],xs,_,h,_,w=>⟨w,[],.refl w,h,rfl⟩
 | .one k::ss,xs,hv,h,hl,w=>by
   simp only[km,List.all_cons,Bool.and_eq_true,Sh.cks,List.all_nil,Bool.and_true] at hv
   obtain⟨r,⟨r1,h1,h2⟩,h3⟩:=h
   cases h2
   obtain⟨w1,u,e1,g1,l1⟩:=xi hv.1 h1 hl w
   obtain⟨w2,us,e2,g2⟩:=fN (ss:=ss) hv.2 h3 l1 w1
   exact⟨w2,u::us,e1.trans e2,u,us,_,rfl,jO e2 g1,g2⟩
 | .agg ks::ss,xs,hv,h,hl,w=>by
   simp only[km,List.all_cons,Bool.and_eq_true,Sh.cks,List.all_nil,Bool.and_true] at hv
   obtain⟨r,h1,h3⟩:=h
   obtain⟨w1,u,e1,g1,l1⟩:=mM hv.1 h1 hl w
   obtain⟨w2,us,e2,g2⟩:=fN (ss:=ss) hv.2 h3 l1 w1
   exact⟨w2,_,e1.trans e2,u,us,_,rfl,gT e2 g1,g2⟩
 | .ptr ks::ss,xs,hv,h,hl,w=>by
   simp only[km,List.all_cons,Bool.and_eq_true,Sh.cks,List.all_nil,Bool.and_true] at hv
   obtain⟨r,h1,h3⟩:=h
   obtain⟨w1,u,e1,g1,l1⟩:=mM hv.1 h1 hl w
   have e2:Ext w1 (w1.alloc (.cells u.toArray 0)):=(Ext.refl w1).alloc _
   obtain⟨w3,us,e3,g3⟩:=fN (ss:=ss) hv.2 h3 l1 (w1.alloc (.cells u.toArray 0))
   have hlt:w1.heap.size<(w1.alloc (.cells u.toArray 0)).heap.size:=cP w1 _
   refine⟨w3,_,e1.trans (e2.trans e3),w1.heap.size,u,us,_,rfl,gT (e2.trans e3) g1,Nat.lt_of_lt_of_le hlt e3.size,fun o v ho=> ?_,g3⟩
   rw[World.cell?_of_block (a:=⟨w1.heap.size,o,none⟩) (e3.block _ hlt),fL (heap_alloc_new w1 _)]
   exact ho
theorem nV:∀{ss:List Sh} {xs:List Dt},(ss.all fun s=>s.cks.all fun k=>!k.isSl)=true→ady ss xs→Lens xs
 | [],xs,_,h=>by cases h; intro L hL; cases hL
 | s::ss,xs,hk,h=>by
   simp only[List.all_cons,Bool.and_eq_true] at hk
   obtain⟨r,h1,h2⟩:=h
   have ih:=nV hk.2 h2
   have key:∀(ks:List CK) (xs r:List Dt),ks.all (fun k=>!k.isSl)=true→yC ks xs r→Lens r→Lens xs:=by
    intro ks
    induction ks with
    | nil=>intro xs r _ h hl; cases h; exact hl
    | cons k ks ihk=>
      intro xs r hk h hl
      simp only[List.all_cons,Bool.and_eq_true] at hk
      obtain⟨r',h1,h2⟩:=h
      have l2:=ihk r' r hk.2 h2 hl
      cases k with
      | int k=>
        obtain⟨x,rfl,_⟩:=h1
        intro L hL
        rcases List.mem_cons.1 hL with e | hL
        ·cases e
        ·exact l2 L hL
      | bool=>
        obtain⟨x,rfl⟩:=h1
        intro L hL
        rcases List.mem_cons.1 hL with e | hL
        ·cases e
        ·exact l2 L hL
      | sl ks ty=>simp[CK.isSl] at hk
      | rl ks ty L=>rw[h1.1]; exact l2
      | el ks ty=>
        obtain⟨row,rfl,_⟩:=h1
        intro L hL
        rcases List.mem_cons.1 hL with e | hL
        ·cases e; simp[maxLen]
        ·exact l2 L hL
      | _=>rw[show xs=r' from h1]; exact l2
   exact key _ xs r hk.1 h1 ih
theorem rD {ds:List Dt} {v0:Nat}:∀(ks:List CK) (n:Nat),dU ks (ds.drop n)→eqs ρ ds v0 n ks→(∀(m:Nat) k,ks[m]? =some (.int k)→inK k (ρ.i (v0+(n+m)))=true)∧∀(m:Nat) k ty,ks[m]? =some (.sl k ty)→RowsIn k (ρ.l (v0+(n+m)))
 | [],n,_,_=>⟨fun m k h=>by simp at h,fun m k ty h=>by simp at h⟩
 | k::ks,n,h,he=>by
   cases hd:ds.drop n with
   | nil=>rw[hd] at h; cases k<;>exact h.elim
   | cons d r=>
     rw[hd] at h
     obtain⟨d1,d2⟩:=cF hd
     have main:dU ks r∧eqs ρ ds v0 (n+1) ks∧(∀k',k=.int k'→inK k' (ρ.i (v0+n))=true)∧∀k' ty,k=.sl k' ty→RowsIn k' (ρ.l (v0+n)):=by
      cases k with
      | int k=>
        cases d with
        | z x=>exact⟨h.2,he.2,fun k' e=>(by cases e; rw[he.1,adc d1]; exact h.1),fun k' ty e=>(by cases e)⟩
        | l L=>exact h.elim
      | sl ks0 ty=>
        cases d with
        | z x=>exact h.elim
        | l L=>exact⟨h.2,he.2,fun k' e=>(by cases e),fun k' ty e=>(by cases e; rw[he.1,afy d1]; exact h.1)⟩
      | bool=>exact⟨h,he.2,fun k' e=>(by cases e),fun k' ty e=>(by cases e)⟩
      | _=>exact⟨h,he,fun k' e=>(by cases e),fun k' ty e=>(by cases e)⟩
     obtain⟨m1,m2,m3,m4⟩:=main
     obtain⟨i1,i2⟩:=rD ks (n+1) (by rw[d2]; exact m1) m2
     refine⟨fun m k' hm=> ?_,fun m k' ty hm=> ?_⟩
     ·cases m with
      | zero=>simp only[List.getElem?_cons_zero,Option.some.injEq] at hm; exact m3 k' hm
      | succ m=>
        have:=i1 m k' (by simpa using hm)
        rwa [show n+(m+1)=n+1+m by omega]
     ·cases m with
      | zero=>simp only[List.getElem?_cons_zero,Option.some.injEq] at hm; exact m4 k' ty hm
      | succ m=>
        have:=i2 m k' ty (by simpa using hm)
        rwa [show n+(m+1)=n+1+m by omega]
def agE (args res:List Sh) (pre:List Dt→Prop):Prop:=(args.all fun a=>a.cks.all fun k=>!k.isSl)=true∨((∀xs,pre xs→Lens xs)∧km args=true)∨(res.all fun a=>a.cks.all fun k=>match k with | .int _=>false | .sl _ _=>false | _=>true)=true
theorem ac3 {ss:List Sh} (h:(ss.all fun a=>a.cks.all fun k=>!k.isSl)=true):km ss=true:=by
 unfold km
 rw[List.all_eq_true] at h ⊢
 intro s hs
 have:=h s hs
 rw[List.all_eq_true] at this ⊢
 intro k hk
 have:=this k hk
 cases k<;>first | rfl | (simp[CK.isSl] at this)
theorem SmOk.of_calls {s:Sm} (hl:agE s.args s.res (sp.pre s.key))
  (h:∀xs vals w,jj w s.args xs vals→sp.pre s.key xs→sp.hw w→
   (∃v w',(callFunc s.f vals.toArray).run P w=.ok (.value v) w'∧RetOk s.res s.tup w w' (sp.F s.key xs) v)∨((callFunc s.f vals.toArray).run P w=.ok (.enter s.f vals.toArray) w∧Calls P s.f vals.toArray w fun e w'=>∃v,e=.returned v∧RetOk s.res s.tup w w' (sp.F s.key xs) v)) (hn:s.inp=none:=by rfl):SmOk P sp s:=by
 refine⟨fun _=>h,fun ks ty e=>(by rw[hn] at e; cases e),fun xs hin hpre ρ v0 he=> ?_⟩
 have hlen:(Lens xs∧km s.args=true)∨((∀(n:Nat) k,s.ks[n]? =some (.int k)→inK k (ρ.i (v0+n))=true)∧(∀(n:Nat) ks ty,s.ks[n]? =some (.sl ks ty)→RowsIn ks (ρ.l (v0+n)))):=by
  rcases hl with hl | hl | hl
  ·exact .inl ⟨nV hl hin,ac3 hl⟩
  ·exact .inl ⟨hl.1 xs hpre,hl.2⟩
  ·right
   have key:∀k∈s.ks,(match k with | .int _=>false | .sl _ _=>false | _=>true)=true:=fun k hk=>by
    obtain⟨a,ha,hk⟩:=List.mem_flatMap.1 hk
    exact List.all_eq_true.1 (List.all_eq_true.1 hl a ha) k hk
   exact⟨fun n k hk=>(by have:=key _ (List.mem_of_getElem? hk); cases this),fun n ks ty hk=>(by have:=key _ (List.mem_of_getElem? hk); cases this)⟩
 rcases hlen with⟨hlen,hev⟩ | hdone
 rotate_left
 ·exact hdone
 obtain⟨wi,hwi⟩:=sp.hi
 obtain⟨w,vals,hxi,hw⟩:=fN hev hin hlen wi
 have hres:dU (s.res.flatMap (·.cks)) (sp.F s.key xs):=by
  rcases h xs vals w hw hpre (sp.hx _ _ hxi hwi) with⟨v,w',_,hr⟩ | ⟨_,hc⟩
  ·exact hr.rng
  ·obtain⟨e,w',_,⟨v,_,hr⟩,_⟩:=hc []
   exact hr.rng
 have he':eqs ρ (sp.F s.key xs) v0 0 (s.res.flatMap (·.cks)):=he
 have:=rD (ρ:=ρ) (ds:=sp.F s.key xs) (v0:=v0) (s.res.flatMap (·.cks)) 0 (by simpa using hres) he'
 simpa[Sm.ks] using this
def dF:List VK→(List Dt→Prop)→Prop
 | [],p=>p []
 | .int k::l,p=>∀x,inK k x=true→dF l fun r=>p (.z x::r)
 | .bool::l,p=>∀b:Bool,dF l fun r=>p (.z (b2i b)::r)
 | .list ks::l,p=>∀L,RowsIn ks L→dF l fun r=>p (.l L::r)
theorem dV:∀{l:List VK} {p:List Dt→Prop},dF l p→∀xs,okDs l xs→p xs
 | [],p,h,[],_=>h
 | .int k::l,p,h,.z x::r,ho=>dV (h x ho.1) r ho.2
 | .bool::l,p,h,.z x::r,ho=>by
   rcases ho.1 with rfl | rfl
   ·exact dV (h false) r ho.2
   ·exact dV (h true) r ho.2
 | .list ks::l,p,h,.l L::r,ho=>dV (h L ho.1) r ho.2
 | [],p,h,_::_,ho=>ho.elim
 | .int _::_,p,h,[],ho=>ho.elim
 | .bool::_,p,h,[],ho=>ho.elim
 | .list _::_,p,h,[],ho=>ho.elim
 | .int _::_,p,h,.l _::_,ho=>ho.1.elim
 | .bool::_,p,h,.l _::_,ho=>ho.1.elim
 | .list _::_,p,h,.z _::_,ho=>ho.1.elim
def afe:List Sm→Bool
 | []=>true
 | s::l=>(l.all fun x=>!Nat.beq x.key s.key)&&afe l
theorem acJ:∀{l:List Sm},afe l=true→∀s∈l,∀s'∈l,s.key=s'.key→s=s'
 | [],_,s,hs,_,_,_=>by cases hs
 | x::l,h,s,hs,s',hs',he=>by
   simp only[afe,Bool.and_eq_true,List.all_eq_true,Bool.not_eq_true'] at h
   rcases List.mem_cons.1 hs with rfl | hs<;>rcases List.mem_cons.1 hs' with rfl | hs'
   ·rfl
   ·have:=h.1 s' (by assumption)
    rw[he] at this
    simp at this
   ·have:=h.1 s (by assumption)
    rw[he] at this
    simp at this
   ·exact acJ h.2 s (by assumption) s' (by assumption) he
def yl (ss:List Sh):List V×List VK×List RowOb×List (List C):=iniA 0 0 0 ss
def alX (hints:List (Nat×List Pl)):Option E:=match ar 999996 hints with
 | some [.gone l,.gone n,.gone c,.gone z]=>some (.eq (.get (.lvar l) (.var n) c) (.lit z))
 | _=>none
def aam (hints:List (Nat×List Pl)) (k:Kw→Tr) (kw:Kw):Tr:=match alX hints with
 | some e=>decK e (fun b kw=>if b then k kw else .stuck 261) kw
 | none=>k kw
theorem aal {sp:Spec} {sm:List Sm} {ρ:Env} {G:Env→E→Prop} {I:Nat→List Dt→Prop} {hints:List (Nat×List Pl)} {k:Kw→Tr} {kw:Kw} (h:(aam hints k kw).holds sp G ρ I) (hg:Good sp sm ρ kw):∃kw',(k kw').holds sp G ρ I∧Good sp sm ρ kw'∧kw'.vk=kw.vk:=by
 unfold aam at h
 split at h
 ·obtain⟨kw',h1,h2,h3,_⟩:=aF _ _ _ h hg
  split at h1
  ·exact⟨kw',h1,h2,h3⟩
  ·exact h1.elim
 ·exact⟨kw,h,hg,rfl⟩
def ajO (ty:List (Nat×TI)) (sm:List Sm) (fns:List (Nat×Func×List (Nat×List Pl)×List (Nat×List Pl))) (hints cuts:List (Nat×List Pl)) (fuel:Nat) (fn:Func) (args res:List Sh):Tr:=
 aam hints (funK ⟨ty,sm,res,(yl args).2.2.2,hints,cuts,fns⟩ fuel fn (yl args).1 ((yl args).2.2.1.map .row)) ⟨if(ar 999997 hints).isSome then[(.tt true,true)] else[],[],(yl args).2.1,0⟩
def am (ty:List (Nat×TI)) (sm:List Sm) (fns:List (Nat×Func×List (Nat×List Pl)×List (Nat×List Pl))) (hints cuts:List (Nat×List Pl)) (fuel:Nat) (fn:Func) (args res:List Sh) (tup:Bool) (vks:List VK) (t:Tr):Prop:=
 ajO ty sm fns hints cuts fuel fn args res=t∧(yl args).2.1=vks∧(t.sc vks.length&&(shOk args&&((Nat.beq res.length 1 == !tup)&&(afe sm&&(!(fn.name== "runtime.NumGoroutine") &&!fn.body.isNone)))))=true
theorem fn0 {P:Program}:∀p∈([]:List (Nat×Func×List (Nat×List Pl)×List (Nat×List Pl))),P.funcs[p.1]? =some p.2.1:=fun _ h=>by cases h
theorem fnc {P:Program} {g:Nat} {fn:Func} {x:List (Nat×List Pl)×List (Nat×List Pl)} {l:List (Nat×Func×List (Nat×List Pl)×List (Nat×List Pl))} (h:P.funcs[g]? =some fn) (h':∀p∈l,P.funcs[p.1]? =some p.2.1):∀p∈(g,fn,x)::l,P.funcs[p.1]? =some p.2.1:=List.forall_mem_cons.2 ⟨h,h'⟩
theorem rV {sp':Spec} {f:Nat} {args res:List Sh} {tup:Bool} {ty:List (Nat×TI)} {sm:List Sm} {fns:List (Nat×Func×List (Nat×List Pl)×List (Nat×List Pl))} {hints cuts:List (Nat×List Pl)} {fuel:Nat} {fn:Func} {vks:List VK} {t:Tr} {F:List Dt→List Dt} {pre:List Dt→Prop} (hm:P.follows .mixedOrders=true) (hT:∀t i,(t,i)∈ty→TIok P t i) (hS:∀s∈sm,SmOk P sp' s) (hf:P.funcs[f]? =some fn)
  (hF':∀p∈fns,P.funcs[p.1]? =some p.2.1) (ht:am ty sm fns hints cuts fuel fn args res tup vks t)
  (h:dF vks fun xs=>pre xs→∀ρ,af ρ 0 vks=xs→t.asks sp' (fun ρ e=>e.D ρ=F xs) ρ fun _ _=>False) (xs:List Dt) (vals:List Value) (w:World) (hw:jj w args xs vals) (hpre:pre xs) (hhw:sp'.hw w):
  (callFunc f vals.toArray).run P w=.ok (.enter f vals.toArray) w∧Calls P f vals.toArray w fun e w'=>∃v,e=.returned v∧RetOk res tup w w' (F xs) v:=by
 obtain⟨ht1,hv1,ht2⟩:=ht
 simp only[Bool.and_eq_true,beq_iff_eq,Bool.not_eq_true'] at ht2
 obtain⟨hsc,hok,htup,hkeys,hname,hbody⟩:=ht2
 refine⟨cB hf hname hbody _ w,?_⟩
 obtain⟨svs,fks,hfl,hvl,harg⟩:=pL hok hw 0 0 0
 have hv2:(iniA 0 0 0 args).2.1=vks:=hv1
 rw[hv2] at harg
 let ρ0:Env:=Env.put ⟨fun _=>0,fun _=>false,fun _=>[]⟩ 0 xs
 have hv0:∀ρ',Ag vks.length ρ0 ρ'→af ρ' 0 vks=xs:=fun ρ' ha=>iK harg.ok (by rw[Nat.zero_add]; exact ha)
 obtain⟨ρ',h1,h2⟩:=yx (G:=fun ρ e=>e.D ρ=F xs) t vks.length ρ0 (fun _ _=>False) hsc (fun ρ' ha=>dV h xs harg.ok hpre ρ' (hv0 ρ' ha))
 let j:J:=⟨fun _=>none,fun id=>svs[id]?,fun b=>fks[b]?,⟨fun _=>none,clz w⟩⟩
 obtain⟨a1,a2⟩:=harg.at' ρ' j (hv0 ρ' h1) (fun i s hi=>by rw[Nat.zero_add]; exact hi)
 obtain⟨a3,a4⟩:=a1 (fun i k hi=>by rw[Nat.zero_add]; exact hi)
 rw[←ht1] at h2
 have hvk:Vk ρ' vks:=by
  have hd:=hv0 ρ' h1
  have ho:=harg.ok
  have key:∀(l:List VK) (n:Nat),okDs l (af ρ' n l)→(∀(i:Nat) k,l[i]? =some (.int k)→inK k (ρ'.i (n+i))=true)∧∀(i:Nat) ks,l[i]? =some (.list ks)→RowsIn ks (ρ'.l (n+i)):=by
   intro l
   induction l with
   | nil=>intro n _; exact⟨fun i k h=>by simp at h,fun i k h=>by simp at h⟩
   | cons x l ih=>
     intro n h
     obtain⟨i1,i2⟩:=ih (n+1) h.2
     refine⟨fun i k hk=> ?_,fun i ks hk=> ?_⟩
     ·cases i with
      | zero=>simp at hk; subst hk; exact h.1
      | succ i=>
        have:=i1 i k (by simpa using hk)
        rwa [show n+(i+1)=n+1+i by omega]
     ·cases i with
      | zero=>simp at hk; subst hk; exact h.1
      | succ i=>
        have:=i2 i ks (by simpa using hk)
        rwa [show n+(i+1)=n+1+i by omega]
  obtain⟨k1,k2⟩:=key _ 0 (by rw[hd]; exact ho)
  exact⟨fun i k hk=>by have:=k1 i k hk; rwa [Nat.zero_add] at this,fun i k hk=>by have:=k2 i k hk; rwa [Nat.zero_add] at this⟩
 obtain⟨kw',h2,hg',_⟩:=aal h2 ⟨fun p hp=>(by
   split at hp
   ·rw[List.mem_singleton.1 hp]; rfl
   ·cases hp),by rw[hv1]; exact hvk,fun p hp=>(by cases hp)⟩
 refine ajl (hF:=hF') (ρ:=ρ') (j:=j) (kw:=kw') (cx:=⟨ty,sm,res,(yl args).2.2.2,hints,cuts,fns⟩) hm hT hS (acJ hkeys) hf a3 hvl.symm htup h2 hg' w ⟨fun b ob hb=> ?_,fun b hb=> ?_,fun b=>rfl,rfl,fun b s hs=> ?_,fun b cs hb=> ?_⟩ hhw
 ·rw[List.getElem?_map,Option.map_eq_some_iff] at hb
  obtain⟨q,hq,rfl⟩:=hb
  have hlt:b<svs.length:=by rw[harg.len]; exact(List.getElem?_eq_some_iff.1 hq).1
  obtain⟨g1,g2⟩:=a2 b svs[b] q (List.getElem?_eq_getElem hlt) hq
  exact⟨q,svs[b],rfl,g1,List.getElem?_eq_getElem hlt,g2 _⟩
 ·rw[List.length_map] at hb
  exact List.getElem?_eq_none (by rw[harg.len]; exact hb)
 ·exact harg.zz s (List.mem_of_getElem? hs)
 ·exact a4 b cs hb
theorem sm0 {sp:Spec}:∀s∈([]:List Sm),SmOk P sp s:=fun _ h=>by cases h
theorem smc {sp:Spec} {s:Sm} {l:List Sm} (h:SmOk P sp s) (h':∀s∈l,SmOk P sp s):∀x∈s::l,SmOk P sp x:=List.forall_mem_cons.2 ⟨h,h'⟩
theorem an {sp sp':Spec} {s:Sm} {ty:List (Nat×TI)} {sm:List Sm} {fns:List (Nat×Func×List (Nat×List Pl)×List (Nat×List Pl))} {hints cuts:List (Nat×List Pl)} {fuel:Nat} {fn:Func} {vks:List VK} {t:Tr} {F:List Dt→List Dt} {pre:List Dt→Prop} (hF:sp.F s.key=F) (hP:sp.pre s.key=pre) (hm:P.follows .mixedOrders=true) (hT:∀t i,(t,i)∈ty→TIok P t i) (hS:∀s∈sm,SmOk P sp' s) (hf:P.funcs[s.f]? =some fn)
  (hF':∀p∈fns,P.funcs[p.1]? =some p.2.1) (ht:am ty sm fns hints cuts fuel fn s.args s.res s.tup vks t) (hl:agE s.args s.res pre)
  (h:dF vks fun xs=>pre xs→∀ρ,af ρ 0 vks=xs→t.asks sp' (fun ρ e=>e.D ρ=F xs) ρ fun _ _=>False) (hn:s.inp=none:=by rfl) (hW:∀w,sp.hw w→sp'.hw w:=by exact fun _ _=>trivial):SmOk P sp s:=
 SmOk.of_calls (by rw[hP]; exact hl) (fun xs vals w hw hpre hhw=>.inr (by rw[hF]; rw[hP] at hpre; exact rV hm hT hS hf hF' ht h xs vals w hw hpre (hW w hhw))) hn
theorem SmOk.pureW {s:Sm} {F:List Dt→List Dt} (hF:sp.F s.key=F) (hl:(s.args.all fun a=>a.cks.all fun k=>!k.isSl)=true) (hr:((s.res.flatMap (·.cks)).filter CK.isSl)=[])
  (h:∀xs vals w,jj w s.args xs vals→sp.hw w→∃X,((callFunc s.f vals.toArray).run P w=.ok (.value X) w∨((callFunc s.f vals.toArray).run P w=.ok (.enter s.f vals.toArray) w∧Calls P s.f vals.toArray w fun e w'=>e=.returned X∧Ext w w'))∧dU (s.res.flatMap (·.cks)) (F xs)∧∀(ρ:Env) v0 nid j,eqs ρ (F xs) v0 0 (s.res.flatMap (·.cks))→(dT s.res s.tup v0 nid).den ρ j=some X) (hn:s.inp=none:=by rfl):SmOk P sp s:=by
 refine SmOk.of_calls (.inl hl) (fun xs vals w hw _ hh=> ?_) hn
 obtain⟨X,h1,h2,h3⟩:=h xs vals w hw hh
 rw[hF]
 have ret:∀w',Ext w w'→RetOk s.res s.tup w w' (F xs) X:=fun w' hx=>
  ⟨hx,h2,[],by rw[hr]; rfl,fun ρ v0 nid j he _=>h3 ρ v0 nid j he,fun ρ v0 _ i u r hu=>by simp at hu,fun i i' u u' k hu=>(by simp at hu),fun u hu=>(by cases hu)⟩
 rcases h1 with h1 | ⟨h1,hc⟩
 ·exact .inl ⟨X,w,h1,ret w (.refl w)⟩
 ·exact .inr ⟨h1,hc.mono fun e w' he=>⟨X,he.1,ret w' he.2⟩⟩
theorem SmOk.pure {s:Sm} {F:List Dt→List Dt} (hF:sp.F s.key=F) (hl:(s.args.all fun a=>a.cks.all fun k=>!k.isSl)=true) (hr:((s.res.flatMap (·.cks)).filter CK.isSl)=[])
  (h:∀xs vals w,jj w s.args xs vals→∃X,((callFunc s.f vals.toArray).run P w=.ok (.value X) w∨((callFunc s.f vals.toArray).run P w=.ok (.enter s.f vals.toArray) w∧Calls P s.f vals.toArray w fun e w'=>e=.returned X∧Ext w w'))∧dU (s.res.flatMap (·.cks)) (F xs)∧∀(ρ:Env) v0 nid j,eqs ρ (F xs) v0 0 (s.res.flatMap (·.cks))→(dT s.res s.tup v0 nid).den ρ j=some X) (hn:s.inp=none:=by rfl):SmOk P sp s:=
 SmOk.pureW hF hl hr (fun xs vals w hw _=>h xs vals w hw) hn
def fu:Value→Bool
 | .int k z=>inK k z
 | _=>true
def fd:Value→Bool
 | .agg cs=>cs.toList.all fu
 | v=>fu v
def gq:Value→Bool
 | .tuple vs=>vs.toList.all fd
 | v=>fd v
theorem RetOk.says {w w':World} {v:Value} (h:RetOk [.one .bool] false w w' [.z 1] v):v=.bool true:=by
 obtain⟨svs,_,h1,_⟩:=h.svs
 have:=h1 ⟨fun _=>0,fun _=>true,fun _=>[]⟩ 0 0 ⟨fun _=>none,fun id=>svs[id]?,fun _=>none,Gh.zero⟩ ⟨rfl,trivial⟩ (fun i u hi=>by rw[Nat.zero_add]; exact hi)
 cases this
 rfl
@[simp] theorem b2i_eq_iff {a b:Bool}:(b2i a=b2i b)=(a=b):=propext ⟨uN,fun h=>by rw[h]⟩
@[simp] theorem b2i_one {a:Bool}:(b2i a==1)=a:=agD a
theorem zb {a b:Bool} (h:a=b):[Dt.z (b2i a)]=[Dt.z (b2i b)]:=by rw[h]
def E.vs (n:Nat):Nat→E→E
 | 0,t=>t
 | k+1,t=>.cons (.var n) (E.vs (n+1) k t)
set_option linter.defProp false in
def S1:=And.intro (@List.getElem?_cons_zero Dt) (And.intro (@List.getElem?_cons_succ Dt) (And.intro (@List.cons_append Dt) (And.intro (@List.nil_append Dt) (And.intro (@List.cons_append CK) (And.intro (@List.nil_append CK) (And.intro Nat.zero_add (And.intro Nat.add_zero (And.intro and_true (And.intro true_and @b2i_one)))))))))
def kdN:Nat→Option IntKind
 | 0=>some .i8
 | 1=>some .u64
 | 2=>some .i64
 | 3=>some .u8
 | 4=>some .i32
 | 5=>some .u32
 | _=>none
def kN:Nat→Nat→List CE
 | 0,_=>[]
 | n+1,m=>kdN (m % 10)::kN n (m / 10)
def zN:Nat→Nat→List C
 | 0,_=>[]
 | n+1,m=>(match kdN (m % 10) with
   | some k=>.int k (.lit 0)
   | none=>.bool (.tt false))::zN n (m / 10)
def E.zs:List Int→E→E
 | [],t=>t
 | z::l,t=>.cons (.lit z) (E.zs l t)
def E.pv (n:Nat):List Int→E→E
 | [],t=>t
 | z::l,t=>.and (.eq (.var n) (.lit z)) (E.pv (n-1) l t)
def E.gs (l i:E) (c:Nat):Nat→E→E
 | 0,t=>t
 | k+1,t=>.cons (.get l i c) (E.gs l i (c+1) k t)
def E.ins (l i t:E):E:=E.gs l i 0 4 (.consb (.getb l i 4) (E.gs l i 5 4 t))
def E.sv (a:Nat):Nat→E
 | 0=>.nil
 | k+1=>.cons (.var a) (E.sv (a+9) k)
def E.tn (i:E) (a:Nat):Nat→E→E
 | 0,t=>t
 | k+1,t=>.cons (.nth i (E.sv a 11)) (E.tn i (a+1) k t)
def E.iv (c:E) (a b:Nat):Nat→E→E
 | 0,t=>t
 | k+1,t=>.cons (.ite c (.var a) (.var b)) (E.iv c (a+1) (b+1) k t)
end
end Go.Proofs.YtfkhblmeioiciaaGreatDoor
set_option linter.unusedVariables false
set_option linter.unusedSimpArgs false
namespace Go.Proofs.YtfkhblmeioiciaaGreatDoor
open Go.RowKit Go.ChangeShapes Go.WideShapes
structure Rw (P:Program) (t:TypeId) (ks:List CE):Prop where
 cells:P.cellsOf t=ks.length
 opn:∀{H:Type} {enc:TypeId×Value→H} {W:World} {sp:Nat→Bool} {hd:Bool} {fuel:Nat} {cs:List Value} {d:DataW H×List MemPlace},
  DataW.trod enc P W 0 sp hd fuel t cs=some d→∃r,cs=rowV ks r∧az ks r=true
theorem iU {k:IntKind} {x:Int} (h:(Lit.int k x).wf=true):inK k x=true:=by
 simp only[Lit.wf,Bool.and_eq_true,decide_eq_true_eq] at h
 rw[aT]; exact h
theorem Rw.int {P:Program} {t:TypeId} (k:IntKind) (ht:P.underlying t=some (.int k)) (hc:P.cellsOf t=1):Rw P t [some k] where
 cells:=hc
 opn:=fun h=>by
  obtain⟨x,h1,_,h2⟩:=DataW.trod_int ht h
  exact⟨[x],h1,by simp[az,inCE,iU h2]⟩
theorem Rw.bool {P:Program} {t:TypeId} (ht:P.underlying t=some .bool) (hc:P.cellsOf t=1):Rw P t [none] where
 cells:=hc
 opn:=fun h=>by
  obtain⟨x,h1,_⟩:=DataW.trod_bool ht h
  exact⟨[b2i x],by cases x<;>exact h1,by cases x<;>rfl⟩
theorem pq:∀{ks ks':List CE} {r r':List Int},az ks r=true→rowV (ks++ks') (r++r')=rowV ks r++rowV ks' r'
 | [],ks',[],r',_=>rfl
 | k::ks,ks',x::r,r',h=>by
   simp only[az,Bool.and_eq_true] at h
   simp only[List.cons_append,rowV,pq h.2]
theorem ml:∀{ks ks':List CE} {r r':List Int},az ks r=true→az ks' r'=true→az (ks++ks') (r++r')=true
 | [],ks',[],r',_,h=>h
 | k::ks,ks',x::r,r',h,h'=>by
   simp only[az,Bool.and_eq_true] at h
   simp only[List.cons_append,az,h.1,ml h.2 h',Bool.and_self]
structure RwSeq (P:Program) (off:Nat) (fs:List Field) (ks:List CE):Prop where
 opn:∀{H:Type} {enc:TypeId×Value→H} {W:World} {sp:Nat→Bool} {hd:Bool} {n:Nat} {cs:List Value},
  (∀f∈fs,∃y,DataW.trod enc P W 0 sp hd n f.type ((cs.drop f.offset).take (P.cellsOf f.type))=some y)→cs.length=off+ks.length→∃r,cs.drop off=rowV ks r∧az ks r=true
theorem RwSeq.nil (P:Program) (off:Nat):RwSeq P off [] []:=⟨fun _ hl=>⟨[],List.drop_eq_nil_of_le (by simp at hl; omega),rfl⟩⟩
theorem RwSeq.cons {P:Program} {off:Nat} {f:Field} {fs:List Field} {ks ks':List CE} (r:Rw P f.type ks) (ho:f.offset=off) (s:RwSeq P (off+ks.length) fs ks'):RwSeq P off (f::fs) (ks++ks'):=⟨fun {H} {enc} {W} {sp} {hd} {n} {cs} h hl=>by
  obtain⟨y,hy⟩:=h f (by simp)
  rw[r.cells,ho] at hy
  obtain⟨a,ha,ha'⟩:=r.opn hy
  obtain⟨b,hb,hb'⟩:=s.opn (fun g hg=>h g (by simp[hg])) (by simp at hl; omega)
  refine⟨a++b,?_,ml ha' hb'⟩
  rw[pq ha',←ha,←hb,←List.drop_drop,List.take_append_drop]⟩
theorem Rw.struct {P:Program} {t:TypeId} {fs:Array Field} {ks:List CE} (s:RwSeq P 0 fs.toList ks) (ht:P.underlying t=some (.struct fs)) (hc:P.cellsOf t=ks.length):Rw P t ks where
 cells:=hc
 opn:=fun {H} {enc} {W} {sp} {hd} {fuel} {cs} {d} h=>by
  obtain⟨xs,n,_,_,hl,hlen,hf⟩:=DataW.trod_struct ht h
  have:=s.opn (enc:=enc) (W:=W) (sp:=sp) (hd:=hd) (n:=n) (cs:=cs) (fun f hm=>by
   obtain⟨i,hi,he⟩:=List.getElem_of_mem hm
   have hi':i<fs.size:=by simpa using hi
   have h1:=hf i f (by rw[Array.getElem?_eq_getElem hi']; simpa using congrArg some he)
   rw[List.getElem?_eq_getElem (by omega)] at h1
   exact⟨_,h1⟩) (by omega)
  simpa using this
theorem afb {α:Type} {n:Nat} {Q:Nat→α→Prop} (h:∀i,i<n→∃x,Q i x):∃l:List α,l.length=n∧∀i x,l[i]? =some x→Q i x:=by
 induction n with
 | zero=>exact⟨[],rfl,by simp⟩
 | succ n ih=>
   obtain⟨l,hl,hq⟩:=ih (fun i hi=>h i (by omega))
   obtain⟨x,hx⟩:=h n (by omega)
   refine⟨l++[x],by simp[hl],fun i y hy=> ?_⟩
   rw[List.getElem?_append] at hy
   split at hy
   ·exact hq i y hy
   ·have:i=n:=by
     rcases Nat.lt_or_ge (i-l.length) 1 with h1 | h1
     ·omega
     ·rw[List.getElem?_eq_none (by simpa using h1)] at hy; cases hy
    subst this
    have:i-l.length=0:=by omega
    rw[this] at hy
    simp at hy
    subst hy
    exact hx
theorem afA {W:World} {a:Addr} {n:Nat} {cs:List Value} (h:W.cells? 0 a n=some cs) (hn:0<n):a.block<W.heap.size∧a.spot=none:=by
 obtain⟨_,hlen,hat⟩:=World.cells?_some h
 have h0:=hat 0 hn
 rw[List.getElem?_eq_getElem (by omega)] at h0
 obtain⟨b,off,spot⟩:=a
 have hs:spot=none:=by
  cases spot with
  | none=>rfl
  | some s=>
    exfalso
    simp[Addr.add,World.cell?] at h0
    split at h0<;>simp at h0
 subst hs
 refine⟨?_,rfl⟩
 rcases Nat.lt_or_ge b W.heap.size with h1 | h1
 ·exact h1
 ·simp[Addr.add,World.cell?,Array.getElem?_eq_none h1] at h0
theorem fy {ρ ρ':Env} {m:Nat} (h:Ag m ρ ρ'):∀(vks:List VK) (n:Nat),n+vks.length≤m→af ρ' n vks=af ρ n vks
 | [],_,_=>rfl
 | k::vks,n,hn=>by
   simp only[List.length_cons] at hn
   have h1:=h n (by omega)
   simp only[af,fy h vks (n+1) (by omega)]
   congr 1
   cases k<;>simp only[varD,h1.1,h1.2.1,h1.2.2]
end Go.Proofs.YtfkhblmeioiciaaGreatDoor
set_option linter.unusedVariables false
set_option linter.unusedSimpArgs false
namespace Go.Proofs.YtfkhblmeioiciaaGreatDoor
open Go.RowKit Go.ChangeShapes Go.WideShapes
def repL (ks:List CE):Nat→List CE
 | 0=>[]
 | n+1=>ks++repL ks n
theorem we (ks:List CE):∀n,(repL ks n).length=n*ks.length
 | 0=>by simp[repL]
 | n+1=>by simp only[repL,List.length_append,we ks n,Nat.succ_mul]; omega
theorem Rw.array {P:Program} {t e:TypeId} {ks:List CE} {n:Nat} (r:Rw P e ks) (ht:P.underlying t=some (.array n e)) (hc:P.cellsOf t=(repL ks n).length):Rw P t (repL ks n) where
 cells:=hc
 opn:=fun {H} {enc} {W} {sp} {hd} {fuel} {cs} {d} h=>by
  obtain⟨xs,m,_,_,hl,hlen,hf⟩:=DataW.trod_array ht h
  rw[hc,we] at hl
  have key:∀(k i:Nat),i+k=n→∃q,cs.drop (i*ks.length)=rowV (repL ks k) q∧az (repL ks k) q=true:=by
   intro k
   induction k with
   | zero=>intro i hi; exact⟨[],by rw[List.drop_eq_nil_of_le (by rw[hl]; exact Nat.mul_le_mul_right _ (by omega))]; rfl,rfl⟩
   | succ k ih=>
     intro i hi
     have h1:=hf i (by omega)
     rw[r.cells,List.getElem?_eq_getElem (by omega)] at h1
     obtain⟨a,ha,ha'⟩:=r.opn h1
     obtain⟨b,hb,hb'⟩:=ih (i+1) (by omega)
     refine⟨a++b,?_,ml ha' hb'⟩
     show _=rowV (ks++repL ks k) _
     rw[pq ha',←ha,←hb,Nat.succ_mul,←List.drop_drop,List.take_append_drop]
  obtain⟨q,h1,h2⟩:=key n 0 (by omega)
  rw[Nat.zero_mul,List.drop_zero] at h1
  exact⟨q,h1,h2⟩
theorem yS {P:Program} {t:TypeId} {ks:List CE} (r:Rw P t ks) {fs:Array Field} (ht:P.underlying t=some (.struct fs)) {H:Type} {enc:TypeId×Value→H} {W:World} {hd:Bool} {v:Value} {d:DataW H} {p:List MemPlace} {rc:Reach} {b0:Nat}
  (hv:Value.okWide P W rc b0 t v) (h:DataW.Trod enc P W 0 (fun _=>true) hd t v d p):∃q,v=.agg (rowV ks q).toArray∧az ks q=true:=by
 obtain⟨fuel,hf⟩:=h
 obtain⟨cs,rfl,_⟩:=okWide_struct ht hv
 obtain⟨q,h1,h2⟩:=r.opn hf
 refine⟨q,?_,h2⟩
 have:cs.toList=rowV ks q:=by simpa[Value.cells] using h1
 rw[←this]
theorem bj {k:CE} {ks:List CE} {q:List Int} (h:az (k::ks) q=true):∃x q',q=x::q'∧inCE k x=true∧az ks q'=true:=by
 cases q with
 | nil=>cases h
 | cons x q'=>
   simp only[az,Bool.and_eq_true] at h
   exact⟨x,q',rfl,h.1,h.2⟩
theorem rA {q:List Int} (h:az [] q=true):q=[]:=by
 cases q with
 | nil=>rfl
 | cons=>cases h
def Kl (P:Program) (d t:Nat) (z:List C):Prop:=∀vs,aB vs z→P.keyLits d t vs=some (bf vs)
def repC (z:List C):Nat→List C
 | 0=>[]
 | n+1=>z++repC z n
theorem cT:∀{z:List C} {vs:List Value},aB vs z→vs.length=z.length
 | [],vs,h=>by rw[aM h]; rfl
 | .int k e::r,vs,h=>by
   obtain⟨x,l,rfl,_,h2⟩:=ah h
   simp[cT h2]
 | .bool e::r,vs,h=>by
   obtain⟨x,l,rfl,h2⟩:=bS h
   simp[cT h2]
 | .yld _::_,vs,h | .wn _ _ _ _ _::_,vs,h | .aw _ _ _ _ _ _ _::_,vs,h | .str _::_,vs,h | .pe _ _ _ _ _ _::_,vs,h | .nmp::_,vs,h | .mp _::_,vs,h | .itp _ _::_,vs,h | .ptr _ _::_,vs,h | .fp _ _::_,vs,h | .fn _::_,vs,h | .nilp::_,vs,h | .undef::_,vs,h | .sl _::_,vs,h | .ep _ _ _ _::_,vs,h | .nsl::_,vs,h | .nilf::_,vs,h | .clo _ _ _::_,vs,h=>by
   cases vs with
   | nil=>exact h.elim
   | cons v l=>cases v<;>exact h.elim
theorem fG:∀{z z':List C} {vs:List Value},aB vs (z++z')→∃v1 v2,vs=v1++v2∧aB v1 z∧aB v2 z'∧bf vs=bf v1++bf v2
 | [],z',vs,h=>⟨[],vs,rfl,trivial,h,rfl⟩
 | .int k e::r,z',vs,h=>by
   obtain⟨x,l,rfl,hx,h2⟩:=ah (r:=r++z') h
   obtain⟨v1,v2,rfl,h3,h4,h5⟩:=fG h2
   exact⟨.int k x::v1,v2,rfl,⟨rfl,hx,h3⟩,h4,by simp[bf,h5]⟩
 | .bool e::r,z',vs,h=>by
   obtain⟨x,l,rfl,h2⟩:=bS (r:=r++z') h
   obtain⟨v1,v2,rfl,h3,h4,h5⟩:=fG h2
   exact⟨.bool x::v1,v2,rfl,h3,h4,by simp[bf,h5]⟩
 | .yld _::_,_,vs,h | .wn _ _ _ _ _::_,_,vs,h | .aw _ _ _ _ _ _ _::_,_,vs,h | .str _::_,_,vs,h | .pe _ _ _ _ _ _::_,_,vs,h | .nmp::_,_,vs,h | .mp _::_,_,vs,h | .itp _ _::_,_,vs,h | .ptr _ _::_,_,vs,h | .fp _ _::_,_,vs,h | .fn _::_,_,vs,h | .nilp::_,_,vs,h | .undef::_,_,vs,h | .sl _::_,_,vs,h | .ep _ _ _ _::_,_,vs,h | .nsl::_,_,vs,h | .nilf::_,_,vs,h | .clo _ _ _::_,_,vs,h=>by
   cases vs with
   | nil=>exact h.elim
   | cons v l=>cases v<;>exact h.elim
theorem Kl.int {P:Program} {d t:Nat} {k:IntKind} (e:E) (ht:P.underlying t=some (.int k)):Kl P (d+1) t [.int k e]:=fun vs hv=>by
 obtain⟨x,l,rfl,hx,h2⟩:=ah hv
 obtain rfl:=aM h2
 have hw:(Lit.int k x).wf=true:=hx
 simp[Program.keyLits,ht,bf,hw]
theorem Kl.array {P:Program} {d t e n:Nat} {z:List C} (h:Kl P d e z) (ht:P.underlying t=some (.array n e)) (he:P.cellsOf e=z.length) (hc:P.cellsOf t=n*z.length):Kl P (d+1) t (repC z n):=fun vs hv=>by
 have key:∀(k i:Nat) (cs us:List Value),cs.drop (i*z.length)=us→aB us (repC z k)→∃ls,((List.range' i k).mapM fun i=>P.keyLits d e ((cs.drop (i*P.cellsOf e)).take (P.cellsOf e)))=some ls∧ls.flatten=bf us:=by
  intro k
  induction k with
  | zero=>intro i cs us _ hu; exact⟨[],rfl,by rw[aM hu]; rfl⟩
  | succ k ih=>
    intro i cs us hd hu
    obtain⟨v1,v2,rfl,h1,h2,h3⟩:=fG (z:=z) (z':=repC z k) hu
    have hl:=cT h1
    obtain⟨ls,g1,g2⟩:=ih (i+1) cs v2 (by rw[Nat.succ_mul,←List.drop_drop,hd,List.drop_left' hl]) h2
    refine⟨bf v1::ls,?_,by rw[List.flatten_cons,g2,h3]⟩
    rw[List.range'_succ,List.mapM_cons,he,hd,List.take_left' hl,h v1 h1]
    rw[he] at g1
    simp only[Option.pure_def,Option.bind_eq_bind,Option.bind_some,g1]
 obtain⟨ls,g1,g2⟩:=key n 0 vs vs (by simp) hv
 have hl:vs.length=P.cellsOf t:=by
  have hr:∀m,(repC z m).length=m*z.length:=fun m=>by
   induction m with
   | zero=>simp[repC]
   | succ m ih=>simp only[repC,List.length_append,ih,Nat.succ_mul]; omega
  rw[hc,cT hv,hr]
 simp only[Program.keyLits,ht,hl,if_true]
 rw[List.range_eq_range',g1]
 simp[g2]
def KlSeq (P:Program) (d off:Nat) (fs:List Field) (z:List C):Prop:=∀(cs us:List Value),cs.drop off=us→aB us z→∃ls,(fs.mapM fun f=>P.keyLits d f.type ((cs.drop f.offset).take (P.cellsOf f.type)))=some ls∧ls.flatten=bf us
theorem KlSeq.nil (P:Program) (d off:Nat):KlSeq P d off [] []:=fun cs us _ hu=>⟨[],rfl,by rw[aM hu]; rfl⟩
theorem KlSeq.cons {P:Program} {d off:Nat} {f:Field} {fs:List Field} {z z':List C} (h:Kl P d f.type z) (ho:f.offset=off) (hc:P.cellsOf f.type=z.length) (h':KlSeq P d (off+z.length) fs z'):KlSeq P d off (f::fs) (z++z'):=fun cs us hd hu=>by
 obtain⟨v1,v2,rfl,h1,h2,h3⟩:=fG hu
 have hl:=cT h1
 obtain⟨ls,g1,g2⟩:=h' cs v2 (by rw[←List.drop_drop,hd,List.drop_left' hl]) h2
 refine⟨bf v1::ls,?_,by rw[List.flatten_cons,g2,h3]⟩
 rw[List.mapM_cons,ho,hc,hd,List.take_left' hl,h v1 h1]
 simp only[Option.pure_def,Option.bind_eq_bind,Option.bind_some,g1]
theorem Kl.struct {P:Program} {d t:Nat} {fs:Array Field} {z:List C} (h:KlSeq P d 0 fs.toList z) (ht:P.underlying t=some (.struct fs)) (hc:P.cellsOf t=z.length) (hn:fs.all (·.name != "_")=true):Kl P (d+1) t z:=fun vs hv=>by
 obtain⟨ls,g1,g2⟩:=h vs vs rfl hv
 have hl:vs.length=P.cellsOf t:=by rw[hc,cT hv]
 simp only[Program.keyLits,ht,hl,hn,and_self,if_true,g1]
 simp[g2]
end Go.Proofs.YtfkhblmeioiciaaGreatDoor
