import Derived.Test.YtghiofgomcihcaaSyM4
set_option linter.unusedVariables false
set_option linter.unusedSimpArgs false
namespace Go.Proofs.Ytghiofgomcihcaa
open Go.RowKit
def qW (cx:Cx) (s:St):ResultVar→Option (Bool×List C)
 | .tmp t=>match evS s.n s.tmps (.tmp t) with
   | some (.one c)=>some (false,[c])
   | some (.agg cs)=>some (true,cs)
   | _=>none
 | .cell t ty=>match evS s.n s.tmps (.tmp t),af ty cx.ty with
   | some (.one (.ptr b o)),some i=>if i.agg then(rowS s.heap b o i.size).map (true,·) else(ldS s.heap b o).map (false,[·])
   | _,_=>none
def resL (cx:Cx) (s:St):List ResultVar→Option (List (Bool×List C))
 | []=>some []
 | r::l=>match qW cx s r,resL cx s l with
   | some x,some xs=>some (x::xs)
   | _,_=>none
def tA (vk:List VK) (heap:List Ob):CK→C→E→Option E
 | .int k,.int k' e,t=>if aR k k'&&e.rng vk k then some (.cons e t) else none
 | .bool,.bool e,t=>some (.consb e t)
 | .fn g,.fn g',t=>if Nat.beq g g' then some (.cons (.lit 0) t) else none
 | .nilf,.nilf,t=>some (.cons (.lit 0) t)
 | .sl ks ty,.sl id,t=>match rwS heap id with
   | some r=>if r.own&&(r.kd.fits r.ks&&(bk r.ks ks&&Nat.beq r.ty ty)) then some (.consl r.l t) else none
   | none=>none
 | .sl ks _,.nsl,t=>(match ks with | []=>none | _::_=>some (.consl .lnil t))
 | _,_,_=>none
def iB (vk:List VK) (heap:List Ob):List CK→List C→E→Option E
 | [],[],t=>some t
 | k::ks,c::cs,t=>(iB vk heap ks cs t).bind (tA vk heap k c)
 | _,_,_=>none
def abJ (heap:List Ob):CK→C→E→Option E
 | .int k,.int k' e,t=>if aR k k' then some (.cons e t) else none
 | .bool,.bool e,t=>some (.consb e t)
 | .fn g,.fn g',t=>if Nat.beq g g' then some (.cons (.lit 0) t) else none
 | .nilf,.nilf,t=>some (.cons (.lit 0) t)
 | .sl ks ty,.sl id,t=>match rwS heap id with
   | some r=>if r.own&&(r.kd.fits r.ks&&(bk r.ks ks&&Nat.beq r.ty ty)) then some (.consl r.l t) else none
   | none=>none
 | .sl ks _,.nsl,t=>(match ks with | []=>none | _::_=>some (.consl .lnil t))
 | _,_,_=>none
theorem zc {vk:List VK} {heap:List Ob} {k:CK} {c:C} {t e:E} (hc:c.rng vk=true) (h:abJ heap k c t=some e):tA vk heap k c t=some e:=by
 unfold abJ at h
 split at h
 ·rename_i k1 k2 x
  split at h
  ·rename_i h1
   obtain rfl:=ao h1
   have h2:x.rng vk k1=true:=hc
   simp[tA,h1,h2]; exact Option.some.inj h
  ·cases h
 all_goals first | exact h | cases h
def rY (heap:List Ob):List CK→List C→E→Option E
 | [],[],t=>some t
 | k::ks,c::cs,t=>(rY heap ks cs t).bind (abJ heap k c)
 | _,_,_=>none
theorem oL {vk:List VK} {heap:List Ob}:∀{ks:List CK} {cs:List C} {t e:E},cs.all (C.rng vk)=true→rY heap ks cs t=some e→iB vk heap ks cs t=some e
 | [],[],_,_,_,h=>h
 | k::ks,c::cs,t,e,hr,h=>by
   simp only[List.all_cons,Bool.and_eq_true] at hr
   simp only[rY,Option.bind_eq_some_iff] at h
   obtain⟨e1,h1,h2⟩:=h
   simp only[iB,Option.bind_eq_some_iff]
   exact⟨e1,oL hr.2 h1,zc hr.1 h2⟩
def tx (vk:List VK) (heap:List Ob) (ks:List CK) (cs:List C) (t:E):Option E:=bif rngs vk cs vk 0 then rY heap ks cs t else none
theorem lx {vk:List VK} {heap:List Ob} {ks:List CK} {cs:List C} {t e:E} (h:tx vk heap ks cs t=some e):iB vk heap ks cs t=some e:=by
 unfold tx at h
 cases hr:rngs vk cs vk 0 with
 | false=>rw[hr] at h; cases h
 | true=>rw[hr] at h; exact oL (rngs_ok cs vk 0 rfl hr) h
def kp (vk:List VK) (heap:List Ob):List Sh→List (Bool×List C)→Option E
 | [],[]=>some .nil
 | .one k::ss,(false,[c])::l=>(kp vk heap ss l).bind (tx vk heap [k] [c])
 | .agg ks::ss,(true,cs)::l=>(kp vk heap ss l).bind (tx vk heap ks cs)
 | _,_=>none
def oidL:List CK→List C→List (Option Nat)
 | .sl _ _::ks,.sl id::cs=>some id::oidL ks cs
 | .sl _ _::ks,_::cs=>none::oidL ks cs
 | _::ks,_::cs=>oidL ks cs
 | _,_=>[]
def oids:List Sh→List (Bool×List C)→List (Option Nat)
 | s::ss,(_,cs)::l=>oidL s.cks cs++oids ss l
 | _,_=>[]
def iw:List (Option Nat)→Bool
 | []=>true
 | none::l=>iw l
 | some a::l=>(l.all fun x=>match x with | some b=>!Nat.beq a b | none=>true)&&iw l
def evAt (heap:List Ob) (id:Nat):Bool:=match rwS heap id with
 | some r=>r.kd.isEv
 | none=>false
def svOf (heap:List Ob) (j:J):Option Nat→SV
 | some id=>if evAt heap id then(j.s id).getD nilSV else {(j.s id).getD nilSV with z:=[]}
 | none=>nilSV
theorem uw (heap:List Ob) (j:J) (id:Nat):(svOf heap j (some id)).v=((j.s id).getD nilSV).v:=by
 cases h:evAt heap id<;>simp only[svOf,h]<;>rfl
def tQ:List (Bool×List C)→V
 | [(true,cs)]=>.agg cs
 | [(false,[c])]=>.one c
 | xs=>.tup xs
def ki (dep:Nat):List (TT×Nat)→Option (TT×Nat)
 | []=>none
 | (t,n)::l=>if Nat.beq (bV l) dep then some (t,n) else ki dep l
def xX (tm:TM):List Nat→List V→Option TM
 | [],[]=>some tm
 | p::ps,v::vs=>if Nat.blt p tm.n then xX (tm.set p v) ps vs else none
 | _,_=>none
def rndK (cl:ClK) (cx:Cx) (fuel:Nat) (r:RfS) (id:Nat) (args:List V) (s:St) (kw:Kw) (k:V→St→Kw→Tr):Tr:=
 match s.heap[id]?,ki r.dep s.tmps.old with
 | some (.loop y),some (t,n)=>
   if Nat.beq n r.len&&(LS.same y.st .ready&&mr (s.heap.set id .gone)) then
    match xX ⟨t,n,(s.tmps.cur,s.tmps.n)::s.tmps.old⟩ r.ps.toList args with
    | some tm=>cF cl none cx fuel r.assign ⟨tm,s.heap⟩ kw fun sg s1 kw1=>match sg with
      | .normal=>(match s1.heap[id]? with
        | some (.loop y1)=>if LS.same y1.st .ready&&mr (s1.heap.set id .gone) then
         cF cl none cx fuel r.body ⟨s1.tmps,s1.heap.set id (.loop ⟨.busy,y1.pend⟩)⟩ kw1 fun sg s2 kw2=>match s2.heap[id]? with
          | some (.loop _)=>if(Nat.beq s2.tmps.old.length (s.tmps.old.length+1)&&Nat.beq s2.tmps.pop.n s.n)&&mr (s2.heap.set id .gone) then(match sg with
           | .normal=>k (.one (.bool (.tt true))) ⟨s2.tmps.pop,s2.heap.set id (.loop ⟨.ready,none⟩)⟩ kw2
           | sg=>k (.one (.bool (.tt false))) ⟨s2.tmps.pop,s2.heap.set id (.loop ⟨.done,some sg⟩)⟩ kw2) else .stuck 210
          | _=>.stuck 211
          else .stuck 212
        | _=>.stuck 213)
      | _=>.stuck 214
    | none=>.stuck 215
   else .stuck 216
 | _,_=>.stuck 217
def qc (fuel:Nat):Nat→Cx→Option RfS→ClK
 | 0,_,_,_,_,_,_,_=>.stuck 120
 | d+1,cx,ry,g,args,s,kw,k=>if Nat.blt g yB then(match af g cx.fns with
   | none=>.stuck (200000+g)
   | some (fn,hints,cuts)=>match fn.body with
     | some c=>if fn.name== "runtime.NumGoroutine" then .stuck 121 else
       cF (qc fuel d {cx with hints:=hints,cuts:=cuts} ry) none {cx with hints:=hints,cuts:=cuts} fuel c ⟨s.tmps.push args (args.length+(fn.ntmps-args.length)),s.heap⟩ kw fun sg s' kw'=>match sg with
        | .exit _=>.stuck 80
        | _=>match resL cx s' fn.results.toList with
          | some xs=>if Nat.beq s'.tmps.old.length (s.tmps.old.length+1)&&Nat.beq s'.tmps.pop.n s.n then k (tQ xs) ⟨s'.tmps.pop,s'.heap⟩ kw' else .stuck 129
          | none=>.stuck 81
     | none=>.stuck 122)
   else match ry with
    | some r=>rndK (qc fuel d {cx with hints:=r.hints,cuts:=r.cuts} (some r)) {cx with hints:=r.hints,cuts:=r.cuts} fuel r (g-yB) args s kw k
    | none=>.stuck 209
def funK (cx:Cx) (fuel:Nat) (fn:Func) (args:List V) (heap:List Ob) (kw:Kw):Tr:=
 match fn.body with
 | some c=>cF (qc fuel 12 cx none) (some fun r=>qc fuel 12 cx (some r)) cx fuel c ⟨TM.push args (args.length+(fn.ntmps-args.length)) ⟨.leaf (.one .undef),0,[]⟩,heap⟩ kw fun sg s kw=>match sg with
   | .exit _=>.stuck 80
   | _=>match resL cx s fn.results.toList with
     | some xs=>match kp kw.vk s.heap cx.res xs with
       | some e=>if iw (oids cx.res xs) then .leaf e else .stuck 83
       | none=>.stuck 84
     | none=>.stuck 81
 | none=>.stuck 82
section
variable {P:Program} {sp:Spec} {ρ:Env} {G:Env→E→Prop} {I:Nat→List Dt→Prop} {cx:Cx} {n:Nat} {X:List Value} {W0:Wb}
theorem ow:∀{l:List (Option Nat)},iw l=true→∀(i i':Nat) b,l[i]? =some (some b)→l[i']? =some (some b)→i=i'
 | [],_,i,i',b,h,_=>by simp at h
 | x::l,h,i,i',b,hi,hi'=>by
   have key:iw l=true∧∀b,x=some b→∀i:Nat,l[i]? ≠some (some b):=by
    cases x with
    | none=>exact⟨h,fun b hb=>by cases hb⟩
    | some a=>
      simp only[iw,Bool.and_eq_true] at h
      refine⟨h.2,fun b hb i hi=> ?_⟩
      cases hb
      have:=List.all_eq_true.1 h.1 _ (List.mem_of_getElem? hi)
      simp at this
   cases i with
   | zero=>
     simp at hi
     cases i' with
     | zero=>rfl
     | succ i'=>exact absurd (by simpa using hi') (key.2 b hi i')
   | succ i=>
     cases i' with
     | zero=>
       simp at hi'
       exact absurd (by simpa using hi) (key.2 b hi' i)
     | succ i'=>rw[ow key.1 i i' b (by simpa using hi) (by simpa using hi')]
theorem yv {j:J} {a:Act} {w:World} {s:St} (h:Rel ρ n X W0 cx.fbs s.fs j a w) {b:Nat}:∀(m o:Nat),RdOk ρ j w (ldS s.heap) (bG b o m):=by
 intro m o p hp c hc
 rw[←pG] at hc
 obtain⟨k',v,h1,h2,h3,_⟩:=iX h (b:=p.1) (o:=p.2) (c:=c) hc
 exact⟨k',v,h1,h2,h3⟩
theorem eo {j:J}:∀{cs:List (Bool×List C)} {vs:List Value},bh ρ j cs=some vs→vs.length=cs.length
 | [],vs,h=>by cases h; rfl
 | c::cs,vs,h=>by
   simp only[bh] at h
   cases hc:den0 ρ j c with
   | none=>rw[hc] at h; cases h
   | some v=>
     cases hl:bh ρ j cs with
     | none=>rw[hc,hl] at h; cases h
     | some l=>rw[hc,hl] at h; cases h; simp[eo hl]
def fT (tmps:Array Value):ResultVar→Sem Value
 | .tmp t=>pure (tmps.getD t undef)
 | .cell a t=>do loadVar t (←asAddr (tmps.getD a undef))
theorem sT (fn:Func) (tmps:Array Value):results fn tmps=(do let vs ←fn.results.mapM (fT tmps); pure (if h:vs.size=1 then vs[0] else .tuple vs)):=by
 unfold results
 congr 2
theorem wb (hT:∀t i,(t,i)∈cx.ty→TIok P t i) {j:J} {a:Act} {w:World} {s:St} (h:At cx ρ n X W0 s j a w) {r:ResultVar} {x:Bool×List C} (hx:qW cx s r=some x):
  ∃v,den0 ρ j x=some v∧(fT a.tmps r).run P w=.ok v w:=by
 have tmpv:∀t u,evS s.n s.tmps (.tmp t)=some u→u.den ρ j=some (a.tmps.getD t undef):=fun t u hu=>h.ev (x:=.tmp t) hu
 cases r with
 | tmp t=>
   simp only[qW] at hx
   split at hx
   ·rename_i c hc
    cases hx
    exact⟨_,tmpv t _ hc,by simp[fT]⟩
   ·rename_i cs hc
    cases hx
    exact⟨_,tmpv t _ hc,by simp[fT]⟩
   ·cases hx
 | cell t ty=>
   simp only[qW] at hx
   split at hx
   ·rename_i b o i hb hi
    obtain⟨kk,hk,hp⟩:=eU (tmpv t _ hb)
    have ht:=hT _ _ (ab hi)
    split at hx
    ·rename_i hagg
     rw[Option.map_eq_some_iff] at hx
     obtain⟨cs,hcs,rfl⟩:=hx
     obtain⟨vs,h1,h2⟩:=bI (P:=P) hk i.size o cs (vT _ _ _ _ hcs) w (yv h.rel i.size o) ⟨kk,o,none⟩ 0 #[] (fun m=>by rw[bi]; simp)
     refine⟨.agg vs.toArray,by simp[den0,h1],?_⟩
     simp[fT,hp,asAddr,Sem.run_bind,loadVar,ht.agg,hagg,ht.size,loadCells,h2]
    ·rename_i hagg
     rw[Option.map_eq_some_iff] at hx
     obtain⟨c,hc,rfl⟩:=hx
     rw[←pG] at hc
     obtain⟨k',v,h1,h2,h3,_⟩:=iX h.rel (b:=b) (o:=o) (c:=c) hc
     rw[hk] at h1; cases h1
     have hagg':i.agg=false:=by simpa using hagg
     refine⟨v,h2,?_⟩
     simp[fT,hp,asAddr,Sem.run_bind,loadVar,ht.agg,hagg',load,Sem.run,h3]
   ·cases hx
theorem wc (hT:∀t i,(t,i)∈cx.ty→TIok P t i) {j:J} {a:Act} {w:World} {s:St} (h:At cx ρ n X W0 s j a w):∀(l:List ResultVar) (xs:List (Bool×List C)),resL cx s l=some xs→
  ∃vs,bh ρ j xs=some vs∧vs.length=l.length∧(l.mapM (fT a.tmps)).run P w=.ok vs w
 | [],xs,hx=>by cases hx; exact⟨[],rfl,rfl,by simp⟩
 | r::l,xs,hx=>by
   simp only[resL] at hx
   split at hx
   ·rename_i x ys h1 h2
    cases hx
    obtain⟨v,h3,h4⟩:=wb hT h h1
    obtain⟨vs,h5,h6,h7⟩:=wc hT h l ys h2
    refine⟨v::vs,by simp[bh,h3,h5],by simp[h6],?_⟩
    rw[List.mapM_cons]
    simp only[Sem.run_bind]
    rw[h4]
    simp only[Result.andThen_ok,h7]
    simp
   ·cases hx
theorem kP (hT:∀t i,(t,i)∈cx.ty→TIok P t i) {j:J} {a:Act} {w:World} {s:St} (h:At cx ρ n X W0 s j a w) {fn:Func} {xs:List (Bool×List C)} (hx:resL cx s fn.results.toList=some xs):
  ∃vs,bh ρ j xs=some vs∧(results fn a.tmps).run P w=.ok (if h:vs.toArray.size=1 then vs.toArray[0] else .tuple vs.toArray) w:=by
 obtain⟨vs,h1,h2,h3⟩:=wc hT h _ xs hx
 refine⟨vs,h1,?_⟩
 rw[sT,Sem.run_bind,Array.mapM_eq_mapM_toList]
 rw[show(List.toArray <$> List.mapM (fT a.tmps) fn.results.toList:Sem (Array Value))=(do let l ←List.mapM (fT a.tmps) fn.results.toList; pure l.toArray) from rfl]
 simp[Sem.run_bind,h3]
theorem bX {α:Type} {ds:List α} {n:Nat} {x:α} {r:List α} (h:ds.drop n=x::r):ds[n]? =some x∧ds.drop (n+1)=r:=by
 have h1:ds[n]? =some x:=by
  have:=congrArg (·[0]?) h
  simpa using this
 refine⟨h1,?_⟩
 have:=congrArg List.tail h
 simpa using this
structure Res1 (hp:List Ob) (ρ:Env) (j:J) (w0 w:World) (ks:List CK) (ids:List (Option Nat)) (vs:List Value) (e t:E):Prop where
 len:ids.length=(ks.filter CK.isSl).length
 rng:dY ks (e.D ρ)
 at':∀ds n,ds.drop n=e.D ρ→ds.drop (n+ks.length)=t.D ρ∧∀(ρ':Env) v0,eqs ρ' ds v0 n ks→
  (∀id (j':J),(∀(i:Nat) u,ids[i]? =some u→j'.s (id+i)=some (svOf hp j u))→denL ρ' j' (ax v0 n id ks)=some vs)∧
  (∀(i:Nat) u r,ids[i]? =some u→(aN v0 n ks)[i]? =some r→RowOk ρ' w0.heap.size w (svOf hp j u) r)
theorem abQ {hp:List Ob} {ρ:Env} {j:J} {w0 w:World} {t:E}:Res1 hp ρ j w0 w [] [] [] t t:=
 ⟨rfl,trivial,fun ds n h=>⟨by simpa using h,fun ρ' v0 he=>⟨fun id j' h=>rfl,fun i u r h=>by simp at h⟩⟩⟩
theorem xl {ds:List Dt} {n:Nat} {x:Int} (h:ds[n]? =some (.z x)):dI ds n=x:=by simp[dI,h]
theorem zg {ds:List Dt} {n:Nat} {x:List (List Int)} (h:ds[n]? =some (.l x)):dL ds n=x:=by simp[dL,h]
theorem aab (b:Bool):(b2i b==1)=b:=by cases b<;>rfl
theorem yZ {vk:List VK} (hv:Vk ρ vk) {s:St} {j:J} {a:Act} {w:World} (h:Rel ρ n X W0 cx.fbs s.fs j a w) {k:CK} {c:C} {t e:E} (he:tA vk s.heap k c t=some e) {v:Value} (hd:c.den ρ j=some v) {ks:List CK} {ids:List (Option Nat)} {vs:List Value} {t0:E} (hr:Res1 s.heap ρ j W0.w w ks ids vs t t0) {cs:List C} (hids:ids=oidL ks cs):
  Res1 s.heap ρ j W0.w w (k::ks) (oidL (k::ks) (c::cs)) (v::vs) e t0:=by
 subst hids
 have plus:∀m:Nat,m+1+ks.length=m+(k::ks).length:=fun m=>by simp; omega
 unfold tA at he
 split at he
 ·rename_i k k' x
  split at he
  ·rename_i hk
   cases he
   simp only[Bool.and_eq_true] at hk
   have:=ao hk.1
   subst this
   cases hd
   refine⟨hr.len,⟨E.rng_ok hv x hk.2,hr.rng⟩,fun ds n' h1=> ?_⟩
   obtain⟨h2,h3⟩:=bX h1
   obtain⟨h4,h5⟩:=hr.at' ds (n'+1) h3
   refine⟨by rw[←plus]; exact h4,fun ρ' v0 heq=> ?_⟩
   obtain⟨h6,h7⟩:=h5 ρ' v0 heq.2
   refine⟨fun id j' hj=> ?_,h7⟩
   simp only[ax,denL,C.den,E.I,h6 id j' hj,heq.1,xl h2]
  ·cases he
 ·rename_i x
  cases he
  cases hd
  refine⟨hr.len,hr.rng,fun ds n' h1=> ?_⟩
  obtain⟨h2,h3⟩:=bX h1
  obtain⟨h4,h5⟩:=hr.at' ds (n'+1) h3
  refine⟨by rw[←plus]; exact h4,fun ρ' v0 heq=> ?_⟩
  obtain⟨h6,h7⟩:=h5 ρ' v0 heq.2
  refine⟨fun id j' hj=> ?_,h7⟩
  have h8:ρ'.b (v0+n')=x.B ρ:=by rw[heq.1]; simp only[dB,xl h2,aab]
  simp only[ax,denL,C.den,E.B,h6 id j' hj,h8]
 ·rename_i g g'
  split at he
  ·rename_i hg
   cases he
   have:=Nat.eq_of_beq_eq_true hg
   subst this
   cases hd
   refine⟨hr.len,hr.rng,fun ds n' h1=> ?_⟩
   obtain⟨h2,h3⟩:=bX h1
   obtain⟨h4,h5⟩:=hr.at' ds (n'+1) h3
   refine⟨by rw[←plus]; exact h4,fun ρ' v0 heq=> ?_⟩
   obtain⟨h6,h7⟩:=h5 ρ' v0 heq
   refine⟨fun id j' hj=> ?_,h7⟩
   simp only[ax,denL,C.den,h6 id j' hj]
  ·cases he
 ·cases he
  cases hd
  refine⟨hr.len,hr.rng,fun ds n' h1=> ?_⟩
  obtain⟨h2,h3⟩:=bX h1
  obtain⟨h4,h5⟩:=hr.at' ds (n'+1) h3
  refine⟨by rw[←plus]; exact h4,fun ρ' v0 heq=> ?_⟩
  obtain⟨h6,h7⟩:=h5 ρ' v0 heq
  refine⟨fun id j' hj=> ?_,h7⟩
  simp only[ax,denL,C.den,h6 id j' hj]
 ·rename_i ks0 ty id0
  split at he
  ·rename_i r hrw
   split at he
   ·rename_i hq
    cases he
    simp only[Bool.and_eq_true] at hq
    obtain⟨ho,hsl,hk,ht⟩:=hq
    have hrw0:=hrw
    rw[←gP] at hrw
    obtain⟨sv,h1,h2⟩:=h.row id0 r (dV hrw)
    simp only[C.den,h1,Option.map_some,Option.some.injEq] at hd
    subst hd
    have e1:=bg hk
    have e2:=Nat.eq_of_beq_eq_true ht
    have e3:=RK.fits_eq hsl
    subst e1 e2
    have hsv:(svOf s.heap j (some id0)).v=sv.v:=by rw[uw,h1]; rfl
    refine⟨by simp[oidL,List.filter,CK.isSl,hr.len],⟨h2.rows,hr.rng⟩,fun ds n' h3=> ?_⟩
    obtain⟨h4,h5⟩:=bX h3
    obtain⟨h6,h7⟩:=hr.at' ds (n'+1) h5
    refine⟨by rw[←plus]; exact h6,fun ρ' v0 heq=> ?_⟩
    obtain⟨h8,h9⟩:=h7 ρ' v0 heq.2
    refine⟨fun id j' hj=> ?_,fun i u q hi hq'=> ?_⟩
    ·have h10:=hj 0 (some id0) rfl
     rw[Nat.add_zero] at h10
     have h11:=h8 (id+1) j' (fun i u hi=>by
      have:=hj (i+1) u (by simpa[oidL] using hi)
      rwa [show id+(i+1)=id+1+i by omega] at this)
     simp only[ax,denL,C.den,h10,Option.map_some,h11,hsv]
    ·cases i with
     | zero=>
       simp only[oidL,List.getElem?_cons_zero,Option.some.injEq] at hi
       simp only[aN,List.getElem?_cons_zero,Option.some.injEq] at hq'
       subst hi hq'
       have hR:(E.lvar (v0+n')).R ρ'=r.l.R ρ:=by
        simp only[E.R]
        rw[heq.1,zg h4]
       rcases bF r.ks with⟨_,g2⟩ | ⟨_,g2⟩
       ·have hea:evAt s.heap id0=true:=by simp[evAt,hrw0,e3,g2,RK.isEv]
        have hev:svOf s.heap j (some id0)=sv:=by simp[svOf,hea,h1]
        rw[hev]
        exact RowOk.swap (q:=r) rfl rfl ho.symm hR (by rw[e3,g2]; trivial) h2
       ·have hea:evAt s.heap id0=false:=by simp[evAt,hrw0,e3,g2,RK.isEv]
        have hev:svOf s.heap j (some id0)={sv with z:=[]}:=by simp[svOf,hea,h1]
        rw[hev]
        have h2:=h2.1 (e3.trans g2)
        refine RowOk.mk_own g2 (by rw[hR]; exact h2.n) (by rw[hR]; exact h2.rows) h2.pos ?_
        rw[hR]
        exact h2.own ho
     | succ i=>exact h9 i u q (by simpa[oidL] using hi) (by simpa[aN] using hq')
   ·cases he
  ·cases he
 ·rename_i ks0 ty
  split at he
  ·cases he
  ·rename_i k0 ks1
   cases he
   cases hd
   have hrows:RowsIn (k0::ks1) []:=⟨fun r hr=>(by cases hr),by simp⟩
   refine⟨by simp[oidL,List.filter,CK.isSl,hr.len],⟨hrows,hr.rng⟩,fun ds n' h3=> ?_⟩
   obtain⟨h4,h5⟩:=bX h3
   obtain⟨h6,h7⟩:=hr.at' ds (n'+1) h5
   refine⟨by rw[←plus]; exact h6,fun ρ' v0 heq=> ?_⟩
   obtain⟨h8,h9⟩:=h7 ρ' v0 heq.2
   refine⟨fun id j' hj=> ?_,fun i u q hi hq'=> ?_⟩
   ·have h10:=hj 0 none rfl
    rw[Nat.add_zero] at h10
    have h11:=h8 (id+1) j' (fun i u hi=>by
     have:=hj (i+1) u (by simpa[oidL] using hi)
     rwa [show id+(i+1)=id+1+i by omega] at this)
    simp only[ax,denL,C.den,h10,Option.map_some,h11]
    rfl
   ·cases i with
    | zero=>
      simp only[oidL,List.getElem?_cons_zero,Option.some.injEq] at hi
      simp only[aN,List.getElem?_cons_zero,Option.some.injEq] at hq'
      subst hi hq'
      have hR:(E.lvar (v0+n')).R ρ'=[]:=by
       simp only[E.R]
       rw[heq.1,zg h4]
       rfl
      rcases bF (k0::ks1) with⟨g1,g2⟩ | ⟨_,g2⟩
      ·exact EvOk.row ⟨g1,by rw[hR]; rfl,by rw[hR]; exact hrows,fun k hk=>absurd hk fq,fun _ p hp=>(by cases hp),[],by rw[hR]; rfl,fun _=>by rw[hR]; exact World.ownsRow_nil _ _ _ _,by rw[hR]; exact RdRow.nil,fun i row x hr=>by rw[hR] at hr; simp at hr⟩ g2
      ·exact RowOk.mk_own g2 (by rw[hR]; rfl) (by rw[hR]; exact hrows) (by simp) (by rw[hR]; exact World.ownsRow_nil _ _ _ _)
    | succ i=>exact h9 i u q (by simpa[oidL] using hi) (by simpa[aN] using hq')
 ·cases he
theorem oK {vk:List VK} (hv:Vk ρ vk) {s:St} {j:J} {a:Act} {w:World} (h:Rel ρ n X W0 cx.fbs s.fs j a w):∀{ks:List CK} {cs:List C} {t e:E},iB vk s.heap ks cs t=some e→∀{vs:List Value},denL ρ j cs=some vs→Res1 s.heap ρ j W0.w w ks (oidL ks cs) vs e t
 | [],[],t,e,he,vs,hd=>by cases he; cases hd; exact abQ
 | k::ks,c::cs,t,e,he,vs,hd=>by
   simp only[iB,Option.bind_eq_some_iff] at he
   obtain⟨e',h1,h2⟩:=he
   simp only[denL] at hd
   cases hc:c.den ρ j with
   | none=>rw[hc] at hd; cases hd
   | some v=>
     cases hl:denL ρ j cs with
     | none=>rw[hc,hl] at hd; cases hd
     | some l=>
       rw[hc,hl] at hd; cases hd
       exact yZ hv h h2 hc (oK hv h h1 hl) rfl
theorem rX {vk:List VK} (hv:Vk ρ vk) {s:St} {j:J} {a:Act} {w:World} (h:Rel ρ n X W0 cx.fbs s.fs j a w) {ks:List CK} {cs:List C} {t e:E} (he:tx vk s.heap ks cs t=some e) {vs:List Value} (hd:denL ρ j cs=some vs):Res1 s.heap ρ j W0.w w ks (oidL ks cs) vs e t:=oK hv h (lx he) hd
structure Res2 (hp:List Ob) (ρ:Env) (j:J) (w0 w:World) (ss:List Sh) (ids:List (Option Nat)) (vs:List Value) (e:E):Prop where
 len:ids.length=((ss.flatMap (·.cks)).filter CK.isSl).length
 rng:dY (ss.flatMap (·.cks)) (e.D ρ)
 at':∀ds n,ds.drop n=e.D ρ→∀(ρ':Env) v0,eqs ρ' ds v0 n (ss.flatMap (·.cks))→
  (∀id (j':J),(∀(i:Nat) u,ids[i]? =some u→j'.s (id+i)=some (svOf hp j u))→bh ρ' j' (aV v0 n id ss)=some vs)∧
  (∀(i:Nat) u r,ids[i]? =some u→(aN v0 n (ss.flatMap (·.cks)))[i]? =some r→RowOk ρ' w0.heap.size w (svOf hp j u) r)
theorem dv {ρ:Env} {ds:List Dt} {v0:Nat}:∀(ks ks':List CK) (n:Nat),eqs ρ ds v0 n (ks++ks')→eqs ρ ds v0 n ks∧eqs ρ ds v0 (n+ks.length) ks'
 | [],ks',n,h=>⟨trivial,h⟩
 | k::ks,ks',n,h=>by
   have plus:n+1+ks.length=n+(k::ks).length:=by simp; omega
   cases k
   case int=>exact⟨⟨h.1,(dv ks ks' (n+1) h.2).1⟩,by rw[←plus]; exact(dv ks ks' (n+1) h.2).2⟩
   case bool=>exact⟨⟨h.1,(dv ks ks' (n+1) h.2).1⟩,by rw[←plus]; exact(dv ks ks' (n+1) h.2).2⟩
   case sl=>exact⟨⟨h.1,(dv ks ks' (n+1) h.2).1⟩,by rw[←plus]; exact(dv ks ks' (n+1) h.2).2⟩
   all_goals exact⟨(dv ks ks' (n+1) h).1,by rw[←plus]; exact(dv ks ks' (n+1) h).2⟩
theorem fU:∀{ks ks':List CK} {ds:List Dt},dY ks ds→dY ks' (ds.drop ks.length)→dY (ks++ks') ds
 | [],ks',ds,_,h=>by simpa using h
 | k::ks,ks',ds,h,h'=>by
   cases ds with
   | nil=>cases k<;>exact h.elim
   | cons d ds=>
     cases k
     case int=>cases d<;>first | exact⟨h.1,fU h.2 h'⟩ | exact h.elim
     case sl=>cases d<;>first | exact⟨h.1,fU h.2 h'⟩ | exact h.elim
     all_goals exact fU (ks:=ks) (ks':=ks') (ds:=ds) h h'
theorem jO {v0:Nat}:∀(ks ks':List CK) (n:Nat),aN v0 n (ks++ks')=aN v0 n ks++aN v0 (n+ks.length) ks'
 | [],ks',n=>rfl
 | k::ks,ks',n=>by
   have plus:n+1+ks.length=n+(k::ks).length:=by simp; omega
   cases k<;>simp only[List.cons_append,aN,jO ks ks' (n+1),plus]
theorem dm {v0:Nat}:∀(ks:List CK) (n:Nat),(aN v0 n ks).length=(ks.filter CK.isSl).length
 | [],n=>rfl
 | k::ks,n=>by cases k<;>simp[aN,List.filter,CK.isSl,dm ks (n+1)]
theorem Res2.cons {hp:List Ob} {j:J} {w0 w:World} {k:Sh} {ss:List Sh} {ids ids':List (Option Nat)} {us vs:List Value} {e t:E} {v:Value} (h1:Res1 hp ρ j w0 w k.cks ids us e t) (h2:Res2 hp ρ j w0 w ss ids' vs t)
  (hq:∀v0 n id,∃p,aV v0 n id (k::ss)=p::aV v0 (n+k.cks.length) (id+(k.cks.filter CK.isSl).length) ss∧∀(ρ':Env) (j':J),denL ρ' j' (ax v0 n id k.cks)=some us→den0 ρ' j' p=some v):Res2 hp ρ j w0 w (k::ss) (ids++ids') (v::vs) e:=by
 refine⟨by rw[List.flatMap_cons,List.filter_append,List.length_append,List.length_append,h1.len,h2.len],?_,fun ds n' hd ρ' v0 he=> ?_⟩
 ·rw[List.flatMap_cons]
  have h3:=(h1.at' (e.D ρ) 0 rfl).1
  rw[Nat.zero_add] at h3
  exact fU h1.rng (by rw[h3]; exact h2.rng)
 ·rw[List.flatMap_cons] at he
  obtain⟨e1,e2⟩:=dv _ _ _ he
  obtain⟨d1,d2⟩:=h1.at' ds n' hd
  obtain⟨a1,a2⟩:=d2 ρ' v0 e1
  obtain⟨b1,b2⟩:=h2.at' ds (n'+k.cks.length) d1 ρ' v0 e2
  refine⟨fun id j' hj=> ?_,fun i u r hi hr=> ?_⟩
  ·obtain⟨p,p1,p2⟩:=hq v0 n' id
   rw[p1]
   have q1:=p2 ρ' j' (a1 id j' (fun i u hi=>hj i u (by
    rw[List.getElem?_append_left (List.getElem?_eq_some_iff.1 hi).1]; exact hi)))
   have q2:=b1 (id+(k.cks.filter CK.isSl).length) j' (fun i u hi=>by
    have:=hj (ids.length+i) u (by rw[List.getElem?_append_right (by omega),Nat.add_sub_cancel_left]; exact hi)
    rw[h1.len] at this
    rwa [Nat.add_assoc])
   simp only[bh,q1,q2]
  ·rw[List.flatMap_cons,jO] at hr
   rcases Nat.lt_or_ge i ids.length with hlt | hge
   ·rw[List.getElem?_append_left hlt] at hi
    rw[List.getElem?_append_left (by rw[dm,←h1.len]; exact hlt)] at hr
    exact a2 i u r hi hr
   ·rw[List.getElem?_append_right hge] at hi
    rw[List.getElem?_append_right (by rw[dm,←h1.len]; exact hge),dm,←h1.len] at hr
    exact b2 _ u r hi hr
theorem mJ {vk:List VK} (hv:Vk ρ vk) {s:St} {j:J} {a:Act} {w:World} (h:Rel ρ n X W0 cx.fbs s.fs j a w):∀{ss:List Sh} {xs:List (Bool×List C)} {e:E},kp vk s.heap ss xs=some e→∀{vs:List Value},bh ρ j xs=some vs→Res2 s.heap ρ j W0.w w ss (oids ss xs) vs e
 | ss,xs,e,he,vs,hd=>by
   unfold kp at he
   split at he
   ·cases he; cases hd
    exact⟨rfl,trivial,fun ds n h ρ' v0 he=>⟨fun id j' h=>rfl,fun i u r h=>by simp[oids] at h⟩⟩
   ·rename_i k ss c l
    rw[Option.bind_eq_some_iff] at he
    obtain⟨e',h1,h2⟩:=he
    simp only[bh] at hd
    cases hc:den0 ρ j (false,[c]) with
    | none=>rw[hc] at hd; cases hd
    | some v=>
      cases hl:bh ρ j l with
      | none=>rw[hc,hl] at hd; cases hd
      | some us=>
        rw[hc,hl] at hd; cases hd
        have hc':c.den ρ j=some v:=hc
        refine Res2.cons (k:=.one k) (rX hv h h2 (vs:=[v]) (by simp[denL,hc'])) (mJ hv h h1 hl) (fun v0 n id=> ?_)
        refine⟨(false,ax v0 n id [k]),?_,fun ρ' j' hh=> ?_⟩
        ·simp only[aV,Sh.cks,List.length_singleton]
         congr 2
         cases k<;>simp[List.filter,CK.isSl]
        ·simp only[Sh.cks] at hh
         have:∃c',ax v0 n id [k]=[c']:=by cases k<;>exact⟨_,rfl⟩
         obtain⟨c',hc2⟩:=this
         rw[hc2] at hh ⊢
         simp only[denL] at hh
         simp only[den0]
         cases hx:c'.den ρ' j' with
         | none=>rw[hx] at hh; cases hh
         | some y=>rw[hx] at hh; simpa using hh
   ·rename_i ks ss cs l
    rw[Option.bind_eq_some_iff] at he
    obtain⟨e',h1,h2⟩:=he
    simp only[bh] at hd
    cases hc:den0 ρ j (true,cs) with
    | none=>rw[hc] at hd; cases hd
    | some v=>
      cases hl:bh ρ j l with
      | none=>rw[hc,hl] at hd; cases hd
      | some us=>
        rw[hc,hl] at hd; cases hd
        simp only[den0,Option.map_eq_some_iff] at hc
        obtain⟨ws,hws,rfl⟩:=hc
        refine Res2.cons (k:=.agg ks) (rX hv h h2 hws) (mJ hv h h1 hl) (fun v0 n id=> ?_)
        exact⟨(true,ax v0 n id ks),rfl,fun ρ' j' hh=>by simp[den0,Sh.cks] at hh ⊢; exact hh⟩
   ·cases he
theorem wa {ρ:Env} {j:J} {res:List Sh} {tup:Bool} {v0 nid:Nat} {vs:List Value} (ht:Nat.beq res.length 1 = !tup) (hl:vs.length=res.length) (h:bh ρ j (aV v0 0 nid res)=some vs):
  (eS res tup v0 nid).den ρ j=some (if h:vs.toArray.size=1 then vs.toArray[0] else .tuple vs.toArray):=by
 cases tup with
 | true=>
   have hne:¬vs.length=1:=fun e=>by rw[hl] at e; simp[e] at ht
   simp[eS,V.den,h,hne]
 | false=>
   have h1:res.length=1:=Nat.eq_of_beq_eq_true (by simpa using ht)
   match res,vs,h1,hl,h with
   | [r],[v],_,_,h=>
     unfold eS
     rw[if_neg (by simp)]
     cases r with
     | one k=>
       have:∃c',ax v0 0 nid [k]=[c']:=by cases k<;>exact⟨_,rfl⟩
       obtain⟨c',hc⟩:=this
       simp only[aV,hc,bh,den0] at h ⊢
       cases hx:c'.den ρ j with
       | none=>rw[hx] at h; cases h
       | some y=>rw[hx] at h; cases h; simpa[V.den] using hx
     | agg ks=>
       simp only[aV,bh,den0] at h ⊢
       cases hx:denL ρ j (ax v0 0 nid ks) with
       | none=>rw[hx] at h; cases h
       | some y=>rw[hx] at h; cases h; simp[V.den,hx]
     | ptr ks=>
       simp only[aV,bh,den0,denL,C.den] at h ⊢
       cases h
       simp[V.den,denL,C.den]
theorem Res2.ret {hp:List Ob} {j:J} {w0 w:World} {ss:List Sh} {tup:Bool} {ids:List (Option Nat)} {vs:List Value} {e:E} (h:Res2 hp ρ j w0 w ss ids vs e) (ht:Nat.beq ss.length 1 = !tup) (hl:vs.length=ss.length) (hx:Ext w0 w)
  (hd:∀(i i':Nat) a b k,ids[i]? =some a→ids[i']? =some b→(svOf hp j a).v.ownBlock=some k→(svOf hp j b).v.ownBlock=some k→i=i') (hz:∀a∈ids,NewZ w0 w (ids.map (svOf hp j)) (svOf hp j a)):RetOk ss tup w0 w (e.D ρ) (if h:vs.toArray.size=1 then vs.toArray[0] else .tuple vs.toArray):=by
 have at0:=fun ρ' v0 he=>h.at' (e.D ρ) 0 rfl ρ' v0 he
 refine⟨hx,h.rng,ids.map (svOf hp j),by rw[List.length_map,h.len],fun ρ' v0 nid j' he hs=> ?_,fun ρ' v0 he i u r hu hr=> ?_,fun i i' u u' k hu hu' hk hk'=> ?_,fun u hu=> ?_⟩
 ·exact wa ht hl ((at0 ρ' v0 he).1 nid j' (fun i u hi=>hs i _ (by rw[List.getElem?_map,hi]; rfl)))
 ·rw[List.getElem?_map,Option.map_eq_some_iff] at hu
  obtain⟨a,ha,rfl⟩:=hu
  exact(at0 ρ' v0 he).2 i a r ha hr
 ·rw[List.getElem?_map,Option.map_eq_some_iff] at hu hu'
  obtain⟨a,ha,rfl⟩:=hu
  obtain⟨b,hb,rfl⟩:=hu'
  exact hd i i' a b k ha hb hk hk'
 ·obtain⟨a,ha,rfl⟩:=List.mem_map.1 hu
  exact hz a ha
def clz (w:World) (k:Nat):Option Obj:=match w.heap[k]? with
 | some o=>if isCl o then some o else none
 | none=>none
theorem mM {w:World} {k:Nat} {o:Obj}:clz w k=some o↔w.heap[k]? =some o∧isCl o=true:=by
 unfold clz
 cases h:w.heap[k]? with
 | none=>simp
 | some o'=>
   cases hc:isCl o' with
   | true=>simp[hc]; intro e; rw[←e]; exact hc
   | false=>simp[hc]; intro e; rw[←e]; exact hc
structure Start (cx:Cx) (ρ:Env) (heap:List Ob) (j:J) (w:World):Prop where
 row:∀(b:Nat) ob,heap[b]? =some ob→∃r s,ob=.row r∧r.own=false∧j.s b=some s∧RowOk ρ w.heap.size w s r
 nos:∀b,heap.length≤b→j.s b=none
 nob:∀b,j.b b=none
 gh:j.g=⟨fun _=>none,clz w⟩
 zz:∀b s,j.s b=some s→∀p∈s.z,w.heap[p.1]? =some p.2∧isCl p.2=true
 fb:∀b cs,cx.fbs b=some cs→∃k vs,j.f b=some k∧k<w.heap.size∧denL ρ j cs=some vs∧∀(o:Nat) v,vs[o]? =some v→dK cs o=true→w.cell? ⟨k,o,none⟩=some v
theorem ou {vk:List VK} {heap:List Ob}:∀{ks:List CK} {cs:List C} {t e:E},iB vk heap ks cs t=some e→∀(i id:Nat),(oidL ks cs)[i]? =some (some id)→∃r,rwS heap id=some r∧r.own=true
 | [],[],t,e,_,i,id,hi=>by simp[oidL] at hi
 | k::ks,c::cs,t,e,he,i,id,hi=>by
   simp only[iB,Option.bind_eq_some_iff] at he
   obtain⟨e',h1,h2⟩:=he
   have ih:=ou h1
   unfold tA at h2
   split at h2
   ·exact ih i id hi
   ·exact ih i id hi
   ·exact ih i id hi
   ·exact ih i id hi
   ·rename_i id0
    split at h2
    ·rename_i r hr
     split at h2
     ·rename_i hq
      simp only[Bool.and_eq_true] at hq
      cases i with
      | zero=>
        simp only[oidL,List.getElem?_cons_zero,Option.some.injEq] at hi
        subst hi
        exact⟨r,hr,hq.1⟩
      | succ i=>exact ih i id (by simpa[oidL] using hi)
     ·cases h2
    ·cases h2
   ·cases i with
    | zero=>simp[oidL] at hi
    | succ i=>exact ih i id (by simpa[oidL] using hi)
   ·cases h2
theorem rz {vk:List VK} {heap:List Ob} {ks:List CK} {cs:List C} {t e:E} (he:tx vk heap ks cs t=some e):∀(i id:Nat),(oidL ks cs)[i]? =some (some id)→∃r,rwS heap id=some r∧r.own=true:=ou (lx he)
theorem eA {vk:List VK} {heap:List Ob}:∀{ss:List Sh} {xs:List (Bool×List C)} {e:E},kp vk heap ss xs=some e→∀(i id:Nat),(oids ss xs)[i]? =some (some id)→∃r,rwS heap id=some r∧r.own=true
 | ss,xs,e,he,i,id,hi=>by
   unfold kp at he
   split at he
   ·simp[oids] at hi
   ·rename_i k ss c l
    rw[Option.bind_eq_some_iff] at he
    obtain⟨e',h1,h2⟩:=he
    have hi':(oidL [k] [c]++oids ss l)[i]? =some (some id):=hi
    rcases Nat.lt_or_ge i (oidL [k] [c]).length with hlt | hge
    ·rw[List.getElem?_append_left hlt] at hi'
     exact rz h2 i id hi'
    ·rw[List.getElem?_append_right hge] at hi'
     exact eA h1 _ id hi'
   ·rename_i ks ss cs l
    rw[Option.bind_eq_some_iff] at he
    obtain⟨e',h1,h2⟩:=he
    have hi':(oidL ks cs++oids ss l)[i]? =some (some id):=hi
    rcases Nat.lt_or_ge i (oidL ks cs).length with hlt | hge
    ·rw[List.getElem?_append_left hlt] at hi'
     exact rz h2 i id hi'
    ·rw[List.getElem?_append_right hge] at hi'
     exact eA h1 _ id hi'
   ·cases he
theorem ko {vk:List VK} {heap:List Ob}:∀{ss:List Sh} {xs:List (Bool×List C)} {e:E},kp vk heap ss xs=some e→xs.length=ss.length
 | ss,xs,e,he=>by
   unfold kp at he
   split at he
   ·rfl
   ·rw[Option.bind_eq_some_iff] at he
    obtain⟨e',h1,_⟩:=he
    simp[ko h1]
   ·rw[Option.bind_eq_some_iff] at he
    obtain⟨e',h1,_⟩:=he
    simp[ko h1]
   ·cases he
theorem da {P:Program} {f:FuncId} {fn:Func} (hf:P.funcs[f]? =some fn) (hname:(fn.name== "runtime.NumGoroutine")=false) (hb:fn.body.isNone=false) (args:Array Value) (w:World):(callFunc f args).run P w=.ok (.enter f args) w:=by
 have h1:fn.name≠ "runtime.NumGoroutine" :=by simpa using hname
 cases hc:fn.body with
 | none=>rw[hc] at hb; cases hb
 | some c=>simp[callFunc,hf,h1,hc,program,Sem.run_bind,Sem.run]
theorem tP {j:J} {xs:List (Bool×List C)} {vs:List Value} (h:bh ρ j xs=some vs):(tQ xs).den ρ j=some (if h:vs.toArray.size=1 then vs.toArray[0] else .tuple vs.toArray):=by
 have tup:xs.length≠1→(V.tup xs).den ρ j=some (if h:vs.toArray.size=1 then vs.toArray[0] else .tuple vs.toArray):=fun hn=>by
  have hl:=eo h
  rw[dif_neg (by simpa[hl] using hn)]
  simp[V.den,h]
 match xs,h with
 | [],h=>exact tup (by simp)
 | [(true,cs)],h=>
   simp only[bh] at h
   cases hc:den0 ρ j (true,cs) with
   | none=>rw[hc] at h; cases h
   | some v=>rw[hc] at h; cases h; exact hc
 | [(false,[c])],h=>
   simp only[bh] at h
   cases hc:den0 ρ j (false,[c]) with
   | none=>rw[hc] at h; cases h
   | some v=>rw[hc] at h; cases h; exact hc
 | [(false,[])],h=>simp[bh,den0] at h
 | [(false,_::_::_)],h=>simp[bh,den0] at h
 | x::y::l,h=>
   have e:tQ (x::y::l)=.tup (x::y::l):=by rcases x with⟨_ | _,_ | ⟨_,_ | ⟨_,_⟩⟩⟩<;>rfl
   rw[e]
   exact tup (by simp)
theorem zA {ρ':Env} {n2:Nat} {X:List Value} {W0:Wb} {s s':St} {j j':J} {a a':Act} {w w':World} (hr:At cx ρ n X W0 s j a w) (hr':At cx ρ' n2 (a.tmps.toList++X) {W0 with top:=false} s' j' a' w')
  (hck:(Nat.beq s'.tmps.old.length (s.tmps.old.length+1)&&Nat.beq s'.tmps.pop.n s.n)=true):At cx ρ' n X W0 ⟨s'.tmps.pop,s'.heap⟩ j' a w':=by
 rw[Bool.and_eq_true] at hck
 have hasz:=hr.rel.size
 have hold:s'.tmps.old≠[]:=fun e=>by
  have:=Nat.eq_of_beq_eq_true hck.1
  rw[e] at this
  simp at this
 have hsn:s'.tmps.n=n2:=hr'.own
 have tmp0:∀i:Nat,(St.mk s'.tmps.pop s'.heap).fs.tmp i=s'.fs.tmp (n2+i):=fun i=>by
  simp only[St.fs,fsOf]
  rw[TM.pop_get hold,hsn]
 refine⟨⟨hr.rel.defers,hasz,fun t ht=> ?_,fun i v hi=> ?_,hr'.rel.box,hr'.rel.nob,hr'.rel.inj,hr'.rel.row,hr'.rel.nor,hr'.rel.sep,hr'.rel.rsep,hr'.rel.fb,hr'.rel.ext,⟨hr'.rel.gs.at',hr'.rel.gs.box,hr'.rel.gs.row,hr'.rel.gs.md,hr'.rel.gs.nd,hr'.rel.gs.lp,hr'.rel.gs.nol,hr'.rel.gs.ev⟩⟩,?_,(Nat.eq_of_beq_eq_true hck.2).trans hr.own⟩
 ·have ht2:t<a.tmps.size:=by rw[hasz]; exact ht
  refine⟨a.tmps[t],Array.getElem?_eq_getElem ht2,?_⟩
  rw[tmp0]
  exact hr'.rel.sav t _ (by rw[List.getElem?_append_left (by simpa using ht2),Array.getElem?_toList]; exact Array.getElem?_eq_getElem ht2)
 ·rw[tmp0]
  have:=hr'.rel.sav (n+i) v (by rw[List.getElem?_append_right (by simp[hasz])]; simpa[hasz] using hi)
  exact this
 ·have h3:=hr'.len
  simp only[List.length_append,Array.length_toList,hasz] at h3
  have h4:=TM.pop_length hold
  show s'.tmps.pop.length=_
  omega
theorem rb {X:List Value} {W0:Wb} {s:St} {j:J} {a:Act} {w:World} (hr:At cx ρ n X W0 s j a w) {F:FS} {m:Nat} (at0:∀i:Nat,F.tmp (m+i)=s.fs.tmp i) (i:Nat) (v:Value) (hi:(a.tmps.toList++X)[i]? =some v):F.tmp (m+i)=.top∨(F.tmp (m+i)).den ρ j=some v:=by
 have hasz:=hr.rel.size
 rw[at0]
 rcases Nat.lt_or_ge i n with h1 | h1
 ·rw[List.getElem?_append_left (by simpa[hasz] using h1)] at hi
  obtain⟨v',h2,h3⟩:=hr.rel.tmp i h1
  rw[Array.getElem?_toList,h2] at hi
  cases hi
  exact h3
 ·rw[List.getElem?_append_right (by simpa[hasz] using h1)] at hi
  have:=hr.rel.sav _ v hi
  simp only[Array.length_toList,hasz] at this
  rw[show n+(i-n)=i by omega] at this
  exact this
theorem lf {dep:Nat} {t:TT} {m:Nat}:∀{l:List (TT×Nat)},ki dep l=some (t,m)→∃off,off+(m+dep)=bV l∧∀i,i<m→dz l (off+i)=some (t.get i)
 | [],h=>by cases h
 | (t0,n0)::l,h=>by
   simp only[ki] at h
   split at h
   ·rename_i hb
    cases h
    exact⟨0,by rw[←Nat.eq_of_beq_eq_true hb]; simp[bV],fun i hi=>by rw[Nat.zero_add]; simp[dz,hi]⟩
   ·obtain⟨off,h1,h2⟩:=lf h
    refine⟨n0+off,by simp only[bV]; omega,fun i hi=> ?_⟩
    simp only[dz]
    rw[if_neg (by omega),show n0+off+i-n0=off+i by omega]
    exact h2 i hi
theorem yw {X:List Value} {W0:Wb} {s:St} {j:J} {a:Act} {w:World} {r:RfS} {rf:Rf} {t:TT} {m:Nat} (hr:At cx ρ n X W0 s j a w) {A B:List Value} (hX:X=A++(rf.tmps.toList++B)) (hB:B.length=r.dep) (hsz:rf.tmps.size=m) (hf:ki r.dep s.tmps.old=some (t,m)):
  At cx ρ m (a.tmps.toList++X) {W0 with top:=false} ⟨⟨t,m,(s.tmps.cur,s.tmps.n)::s.tmps.old⟩,s.heap⟩ j {tmps:=rf.tmps,defers:=[]} w:=by
 obtain⟨off,h1,h2⟩:=lf hf
 have hn:s.tmps.n=n:=hr.own
 have hlen:X.length=bV s.tmps.old:=by
  have h3:=hr.len
  unfold TM.length at h3
  omega
 have hA:A.length=off:=by
  have:=congrArg List.length hX
  simp only[List.length_append,Array.length_toList] at this
  omega
 refine⟨⟨rfl,hsz,fun i hi=> ?_,rb hr (fun i=> ?_),hr.rel.box,hr.rel.nob,hr.rel.inj,hr.rel.row,hr.rel.nor,hr.rel.sep,hr.rel.rsep,hr.rel.fb,hr.rel.ext,⟨hr.rel.gs.at',hr.rel.gs.box,hr.rel.gs.row,hr.rel.gs.md,hr.rel.gs.nd,hr.rel.gs.lp,hr.rel.gs.nol,hr.rel.gs.ev⟩⟩,?_,rfl⟩
 ·have hi2:i<rf.tmps.size:=by rw[hsz]; exact hi
  refine⟨rf.tmps[i],Array.getElem?_eq_getElem hi2,?_⟩
  have h3:=hr.rel.sav (off+i) rf.tmps[i] (by
   have e:rf.tmps.toList.length=m:=by simp[hsz]
   rw[hX,List.getElem?_append_right (by omega),List.getElem?_append_left (by omega)]
   rw[show off+i-A.length=i by omega,Array.getElem?_toList]
   exact Array.getElem?_eq_getElem hi2)
  have h4:s.fs.tmp (n+(off+i))=t.get i:=by
   simp only[St.fs,fsOf,TM.get?]
   rw[if_neg (by omega),show n+(off+i)-s.tmps.n=off+i by omega,h2 i hi]
   rfl
  have h5:(St.mk ⟨t,m,(s.tmps.cur,s.tmps.n)::s.tmps.old⟩ s.heap).fs.tmp i=t.get i:=by
   simp only[St.fs,fsOf,TM.get?]
   rw[if_pos hi]; rfl
  rw[h4] at h3
  rw[h5]
  exact h3
 ·simp only[St.fs,fsOf,TM.get?]
  rw[if_neg (by omega),show m+i-m=i by omega]
  rfl
 ·simp only[TM.length,bV,List.length_append,Array.length_toList,hr.rel.size]
  rw[hn,←hlen]
theorem qx {X:List Value} {W0:Wb} {heap:List Ob} {j:J} {w:World}:∀{ps:List Nat} {vs:List V} {us:List Value} {tm tm':TM} {a:Act},xX tm ps vs=some tm'→At cx ρ n X W0 ⟨tm,heap⟩ j a w→us.length=vs.length→(∀(i:Nat) x,vs[i]? =some x→∃u,us[i]? =some u∧x.den ρ j=some u)→
  At cx ρ n X W0 ⟨tm',heap⟩ j {a with tmps:=(ps.zip us).foldl (fun t p=>t.setIfInBounds p.1 p.2) a.tmps} w∧ps.length=us.length
 | [],[],[],tm,tm',a,h,hr,_,_=>by cases h; exact⟨hr,rfl⟩
 | p::ps,v::vs,u::us,tm,tm',a,h,hr,hl,hd=>by
   simp only[xX] at h
   split at h
   ·rename_i hp
    have hp:p<tm.n:=by simpa[Nat.blt_eq] using hp
    obtain⟨u',h1,h2⟩:=hd 0 v rfl
    simp only[List.getElem?_cons_zero,Option.some.injEq] at h1
    subst h1
    have hn:tm.n=n:=hr.own
    have h3:At cx ρ n X W0 ⟨tm.set p v,heap⟩ j (a.put (some p) u) w:=by
     refine⟨?_,hr.len,hr.own⟩
     have h4:=hr.rel.put (dst:=some p) h2 (fun d hd=>by cases hd; omega)
     have e:(St.mk (tm.set p v) heap).fs=(St.mk tm heap).fs.put (some p) v:=by
      refine FS.ext' (fun t=> ?_) (fun _=>rfl) (fun _=>rfl) (fun _=>rfl)
      simp only[FS.put,St.fs,fsOf,TM.get_set tm v hp]
      by_cases ht:p=t
      ·subst ht; simp
      ·simp[ht]
     rw[e]
     exact h4
    obtain⟨h5,h6⟩:=qx h h3 (by simpa using hl) (fun i x hx=>hd (i+1) x (by simpa using hx))
    exact⟨h5,by simp[h6]⟩
   ·cases h
 | [],_::_,_,_,_,_,h,_,_,_=>by cases h
 | _::_,[],_,_,_,_,h,_,_,_=>by cases h
 | [],[],_::_,_,_,_,_,_,hl,_=>by simp at hl
 | _::_,_::_,[],_,_,_,_,_,hl,_=>by simp at hl
theorem sK {x:LS} (h:LS.same x .ready=true):x=.ready:=by cases x<;>first | rfl | cases h
theorem aaW (hm:P.follows .mixedOrders=true) (hT:∀t i,(t,i)∈cx.ty→TIok P t i) (hS:∀s∈cx.sm,SmOk P sp s) (hkeys:∀s∈cx.sm,∀s'∈cx.sm,s.key=s'.key→s=s') {fuel:Nat} {cl:ClK} {r:RfS} (hcl:CallOk P sp G cx (some r) cl)
  {id:Nat} {args:List V} {s:St} {kw:Kw} {k:V→St→Kw→Tr} {R:Value→World→Prop} {n:Nat} {X:List Value} {W0:Wb} {j:J} {a:Act} {w:World} {vals:List Value} {l:Nat} (h:(rndK cl cx fuel r id args s kw k).holds sp G ρ I) (hg:Good sp cx.sm ρ kw) (hr:At cx ρ n X W0 s j a w) (ht:Tie (some r) X W0)
  (hyl:j.g.y id=some l) (hl:vals.length=args.length) (hd:∀(i:Nat) x,args[i]? =some x→∃u,vals[i]? =some u∧x.den ρ j=some u)
  (hR:∀v s' kw' ρ' I' j' w' u,(k v s' kw').holds sp G ρ' I'→Good sp cx.sm ρ' kw'→Ag kw.vk.length ρ ρ'→(∀m,m<kw.lv→I' m=I m)→kw.lv≤kw'.lv→kw.vk.length≤kw'.vk.length→v.den ρ' j'=some u→At cx ρ' n X W0 s' j' a w'→R u w'):
  ∃f tmps assign body,(Instr.yield l vals.toArray).run P w=.ok (.round l f tmps assign body) w∧∀ro,RoundIn (Fw ro) 0 P l f tmps assign body w fun e w'=>∃u,e=.returned u∧R u w':=by
 obtain⟨rf,A,B,t1,t2,t3,t4,t5,t6,t7⟩:=ht
 unfold rndK at h
 split at h<;>first | exact h.elim | skip
 rename_i y t m hy hf
 split at h<;>first | exact h.elim | skip
 rename_i hck
 simp only[Bool.and_eq_true] at hck
 have hm0:m=r.len:=Nat.eq_of_beq_eq_true hck.1
 split at h<;>first | exact h.elim | skip
 rename_i tm htm
 have hy0:s.fs.lp id=some y:=ix.2 hy
 obtain⟨rf',o,e1,e2,e3,e4,e5,e6⟩:=hr.rel.lpZ hy0
 rw[t1] at e1; cases e1
 have hll:l=rf.l:=by rw[hyl] at e2; exact Option.some.inj e2
 subst hll
 have h0:=yw (r:=r) (rf:=rf) hr t6 t7 (t5.trans hm0.symm) hf
 obtain⟨h1,h2⟩:=qx htm h0 hl hd
 have hps:vals.toArray.size=o.params.size:=by rw[e5.ps,t2]; simpa using h2.symm
 refine⟨o.fn,_,o.assign,o.body,run_yield e4 hps,fun ro=>roundIn_of_wpIn (F:=Fw ro) trivial ?_⟩
 have hfr:(Fw ro).inRound rf.l=Fw (some rf.l):=rfl
 rw[hfr]
 have etm:(o.params.zip vals.toArray).foldl (fun tmps (x:Nat×Value)=>match x with | (t,a)=>tmps.setIfInBounds t a) o.tmps=(r.ps.toList.zip vals).foldl (fun t p=>t.setIfInBounds p.1 p.2) rf.tmps:=by
  rw[e5.ps,e5.tmps,t2,←Array.foldl_toList,Array.toList_zip]
 rw[etm,e5.assign,t3]
 have tie2:Tie (some r) (a.tmps.toList++X) {W0 with top:=false}:=(show Tie (some r) X {W0 with top:=false} from⟨rf,A,B,t1,t2,t3,t4,t5,t6,t7⟩).more _
 refine jc (rl:=none) (ry:=some r) hcl (fun f hf=>by cases hf) hm hT hS hkeys fuel r.assign {W0 with top:=false} _ kw _ _ ρ I j _ w tie2 (fun e=>by cases e) h hg h1 (fun M1 sg s1 kw1 ρ1 I1 j1 a1 w1 hM1 h' hg' ha' hI' hl' hv' hr'=> ?_)
 have hM1:M1=W0.M:=hM1 rfl
 subst hM1
 cases sg with
 | exit id=>exact h'.elim
 | ret=>exact h'.elim
 | normal=>
   dsimp only at h'
   split at h'<;>first | exact h'.elim | skip
   rename_i y1 hy1
   split at h'<;>first | exact h'.elim | skip
   rename_i hck1
   rw[Bool.and_eq_true] at hck1
   have hlp1:s1.fs.lp id=some y1:=ix.2 hy1
   obtain⟨rf1,o1,f1,f2,f3,f4,f5,f6⟩:=hr'.rel.lpZ hlp1
   have:rf1=rf:=by
    have h8:W0.rf=some rf1:=f1
    rw[t1] at h8; exact(Option.some.inj h8).symm
   subst this
   refine⟨_,run_beginRound f4 (by rw[f5.st,sK hck1.1]; rfl),?_⟩
   have h9:=hr'.rel.loopSet hlp1 (fun i yi hi=>wq hck1.2 i yi hi) f1 f2 f3 (y':=⟨.busy,y1.pend⟩) (o':={o1 with state:=.busy}) ⟨rfl,f5.pend,f5.ps,f5.assign,f5.body,f5.tmps⟩
   rw[e5.body,t4]
   have hat1:At cx ρ1 m (a.tmps.toList++X) {W0 with top:=false} ⟨s1.tmps,s1.heap.set id (.loop ⟨.busy,y1.pend⟩)⟩ (j1.setz rf1.l (some (.loop {o1 with state:=.busy}))) a1 (w1.putObj rf1.l (.loop {o1 with state:=.busy})):=by
    refine⟨?_,hr'.len,hr'.own⟩
    rw[show(St.mk s1.tmps (s1.heap.set id (.loop ⟨.busy,y1.pend⟩))).fs=s1.fs.setl id (some ⟨.busy,y1.pend⟩) from lc hy1 _]
    exact h9
   refine jc (rl:=none) (ry:=some r) hcl (fun f hf=>by cases hf) hm hT hS hkeys fuel r.body {W0 with top:=false} _ kw1 _ _ ρ1 I1 _ _ _ tie2 (fun e=>by cases e) h' hg' hat1 (fun M2 sg s2 kw2 ρ2 I2 j2 a2 w2 hM2 h'' hg'' ha'' hI'' hl'' hv'' hr''=> ?_)
   have hM2:M2=W0.M:=hM2 rfl
   subst hM2
   split at h''<;>first | exact h''.elim | skip
   rename_i y2 hy2
   split at h''<;>first | exact h''.elim | skip
   rename_i hck2
   rw[Bool.and_eq_true] at hck2
   have hat2:=zA hr hr'' hck2.1
   have hlp2:(St.mk s2.tmps.pop s2.heap).fs.lp id=some y2:=ix.2 hy2
   obtain⟨rf2,o2,g1,g2,g3,g4,g5,g6⟩:=hat2.rel.lpZ hlp2
   have:rf2=rf1:=by rw[t1] at g1; exact(Option.some.inj g1).symm
   subst this
   have ag:Ag kw.vk.length ρ ρ2:=ha'.trans (ha''.mono hv')
   have hI3:∀m,m<kw.lv→I2 m=I m:=fun m hm=>(hI'' m (by omega)).trans (hI' m hm)
   have fin:∀(jump:Option Sig) (b:Bool),b=jump.isNone→(∀sg,jump=some sg→True)→(k (.one (.bool (.tt b))) ⟨s2.tmps.pop,s2.heap.set id (.loop ⟨if b then .ready else .done,jump⟩)⟩ kw2).holds sp G ρ2 I2→
    ∃v w',(Instr.endRound rf2.l (jump.map Sig.code)).run P w2=.ok v w'∧∃u,Ending.returned v=.returned u∧R u w':=by
    intro jump b hb _ hh
    have hbn:(jump.map Sig.code).isNone=b:=by rw[hb]; cases jump<;>rfl
    refine⟨_,_,run_endRound (jump.map Sig.code) g4,_,rfl,?_⟩
    rw[hbn]
    have g9:=hat2.rel.loopSet hlp2 (fun i yi hi=>wq hck2.2 i yi hi) g1 g2 g3 (y':=⟨if b then .ready else .done,jump⟩) (o':={o2 with state:=if b then .ready else .done,pending:=jump.map Sig.code}) ⟨by cases b<;>rfl,rfl,g5.ps,g5.assign,g5.body,g5.tmps⟩
    refine hR _ _ kw2 ρ2 I2 (j2.setz rf2.l (some (.loop {o2 with state:=if b then .ready else .done,pending:=jump.map Sig.code}))) _ (.bool b) hh hg'' ag hI3 (by omega) (by omega) (by simp[V.den,C.den,E.B]) ⟨?_,hat2.len,hat2.own⟩
    rw[show(St.mk s2.tmps.pop (s2.heap.set id (.loop ⟨if b then .ready else .done,jump⟩))).fs=(St.mk s2.tmps.pop s2.heap).fs.setl id (some ⟨if b then .ready else .done,jump⟩) from lc hy2 _]
    exact g9
   cases sg with
   | normal=>exact fin none true rfl (fun _ _=>trivial) h''
   | exit id=>exact fin (some (.exit id)) false rfl (fun _ _=>trivial) h''
   | ret=>exact fin (some .ret) false rfl (fun _ _=>trivial) h''
theorem jd (hm:P.follows .mixedOrders=true) {fuel:Nat}:∀(d:Nat) (cx:Cx) (ry:Option RfS),(∀t i,(t,i)∈cx.ty→TIok P t i)→(∀s∈cx.sm,SmOk P sp s)→(∀s∈cx.sm,∀s'∈cx.sm,s.key=s'.key→s=s')→(∀p∈cx.fns,P.funcs[p.1]? =some p.2.1)→CallOk P sp G cx ry (qc fuel d cx ry)
 | 0,cx,ry,_,_,_,_=>⟨fun _ _ _ _ _ _ _ _ _ _ _ _ _ _ _ _ h=>h.elim,fun _ _ _ _ _ _ _ _ _ _ _ _ _ _ _ _ h=>h.elim⟩
 | d+1,cx,ry,hT,hS,hkeys,hF=>by
   refine⟨fun g args s kw k R ρ I n X W0 j a w vals hgb h hg hr ht hl hd hR=> ?_,fun id args s kw k R ρ I n X W0 j a w vals l h hg hr ht hyl hl hd hR=> ?_⟩
   ·have hbl:Nat.blt g yB=true:=by simpa[Nat.blt_eq] using hgb
    simp only[qc,hbl,if_true] at h
    split at h
    ·exact h.elim
    ·rename_i fn hints cuts hlook
     have hf:P.funcs[g]? =some fn:=hF _ (ab hlook)
     split at h
     ·rename_i c hc
      split at h
      ·exact h.elim
      ·rename_i hname
       refine⟨da hf (by simpa using hname) (by rw[hc]; rfl) _ w,?_⟩
       refine mO hf hc ?_
       have hsz:vals.toArray.size=args.length:=by simpa using hl
       have hasz:=hr.rel.size
       have hle:args.length≤args.length+(fn.ntmps-args.length):=Nat.le_add_right _ _
       have at0:∀i:Nat,(s.tmps.push args (args.length+(fn.ntmps-args.length))).get? (args.length+(fn.ntmps-args.length)+i)=s.tmps.get? i:=fun i=>TM.push_old_get s.tmps hle i
       refine jc (rl:=none) (cx:={cx with hints:=hints,cuts:=cuts}) (n:=args.length+(fn.ntmps-args.length)) (X:=a.tmps.toList++X) (jd hm d _ ry hT hS hkeys hF) (fun f hf=>by cases hf) hm hT hS hkeys fuel c {W0 with top:=false} _ kw _ _ ρ I j _ w ht (fun e=>by cases e) h hg
        ⟨⟨rfl,by simp[hl],?_,?_,hr.rel.box,hr.rel.nob,hr.rel.inj,hr.rel.row,hr.rel.nor,hr.rel.sep,hr.rel.rsep,hr.rel.fb,hr.rel.ext,⟨hr.rel.gs.at',hr.rel.gs.box,hr.rel.gs.row,hr.rel.gs.md,hr.rel.gs.nd,hr.rel.gs.lp,hr.rel.gs.nol,hr.rel.gs.ev⟩⟩,?_,TM.push_n _ _ _⟩ ?_
       ·intro t ht
        rcases Nat.lt_or_ge t args.length with h1 | h1
        ·obtain⟨u,hu,hdu⟩:=hd t args[t] (List.getElem?_eq_getElem h1)
         refine⟨u,?_,.inr ?_⟩
         ·rw[Array.getElem?_append_left (by simpa[hl] using h1)]
          simpa using hu
         ·simp only[St.fs,fsOf]
          rw[TM.push_arg s.tmps hle h1,List.getElem?_eq_getElem h1]
          exact hdu
        ·refine⟨Go.undef,?_,.inr ?_⟩
         ·rw[Array.getElem?_append_right (by simpa[hl] using h1)]
          rw[Array.getElem?_replicate,if_pos (by rw[hsz]; omega)]
         ·simp only[St.fs,fsOf]
          rw[TM.push_undef s.tmps hle h1 ht]
          rfl
       ·exact rb hr (fun i=>by simp only[St.fs,fsOf,at0])
       ·simp only[TM.push_length,hr.len,List.length_append,Array.length_toList,hasz]
       ·intro M' sg s' kw' ρ' I' j' a' w' hM' h' hg' ha' hI' hl' hv' hr'
        have hM':M'=W0.M:=hM' rfl
        subst hM'
        have hr':At cx ρ' (args.length+(fn.ntmps-args.length)) (a.tmps.toList++X) {W0 with top:=false} s' j' a' w':=⟨hr'.rel,hr'.len,hr'.own⟩
        have fin:(match resL cx s' fn.results.toList with
         | some xs=>if Nat.beq s'.tmps.old.length (s.tmps.old.length+1)&&Nat.beq s'.tmps.pop.n s.n then k (tQ xs) ⟨s'.tmps.pop,s'.heap⟩ kw' else .stuck 129
         | none=>.stuck 81:Tr).holds sp G ρ' I'→a'.defers=[]∧∃v,(results fn a'.tmps).run P w'=.ok v w'∧∃u,Ending.returned v=.returned u∧R u w':=by
         intro h'
         split at h'
         ·rename_i xs hxs
          split at h'<;>first | exact h'.elim | skip
          rename_i hck
          obtain⟨vs,h1,h2⟩:=kP hT hr' hxs
          exact⟨hr'.rel.defers,_,h2,_,rfl,hR (tQ xs) _ kw' ρ' I' j' w' _ h' hg' ha' hI' hl' hv' (tP h1) (zA hr hr' hck)⟩
         ·exact h'.elim
        cases sg with
        | exit id=>exact h'.elim
        | normal=>exact fin h'
        | ret=>exact fin h'
     ·exact h.elim
   ·have hbl:Nat.blt (yB+id) yB=false:=by
     cases hb:Nat.blt (yB+id) yB with
     | false=>rfl
     | true=>
       have:yB+id<yB:=by simpa[Nat.blt_eq] using hb
       omega
    simp only[qc,hbl] at h
    split at h
    ·cases ‹false=true›
    ·split at h
     ·rename_i r
      rw[show yB+id-yB=id by omega] at h
      obtain⟨f,tm,as,bd,h1,h2⟩:=aaW (cx:={cx with hints:=r.hints,cuts:=r.cuts}) hm hT hS hkeys (jd hm d {cx with hints:=r.hints,cuts:=r.cuts} (some r) hT hS hkeys hF) h hg ⟨hr.rel,hr.len,hr.own⟩ ht hyl hl hd (R:=R) (fun v s' kw' ρ' I' j' w' u q1 q2 q3 q4 q5 q6 q7 q8=>hR v s' kw' ρ' I' j' w' u q1 q2 q3 q4 q5 q6 q7 ⟨q8.rel,q8.len,q8.own⟩)
      exact⟨f,tm,as,bd,h1,h2⟩
     ·exact h.elim
theorem abE (hF:∀p∈cx.fns,P.funcs[p.1]? =some p.2.1) (hm:P.follows .mixedOrders=true) (hT:∀t i,(t,i)∈cx.ty→TIok P t i) (hS:∀s∈cx.sm,SmOk P sp s) (hkeys:∀s∈cx.sm,∀s'∈cx.sm,s.key=s'.key→s=s') {f:Nat} {fn:Func} (hf:P.funcs[f]? =some fn)
  {fuel:Nat} {args:List V} {heap:List Ob} {kw:Kw} {vals:List Value} {j:J} (hargs:∀(i:Nat) x,args[i]? =some x→∃u,vals[i]? =some u∧x.den ρ j=some u) (hlen:vals.length=args.length) {tup:Bool} (ht:Nat.beq cx.res.length 1 = !tup) {X:List Dt}
  (h:(funK cx fuel fn args heap kw).holds sp (fun ρ e=>e.D ρ=X) ρ I) (hg:Good sp cx.sm ρ kw) (w:World) (hst:Start cx ρ heap j w):Calls P f vals.toArray w fun e w'=>∃v,e=.returned v∧RetOk cx.res tup w w' X v:=by
 unfold funK at h
 split at h
 ·rename_i c hc
  refine eI.1 (callsIn_of_wp_marks (F:=Fw none) (n:=0) hf hc trivial ?_)
  have hsz:vals.toArray.size=args.length:=by simpa using hlen
  have eP:∀b,(rowH heap b=none↔heap.length≤b)∧∀r,rowH heap b=some (some r)→heap[b]? =some (.row r):=by
   intro b
   refine⟨⟨fun hb=> ?_,fun hb=>by simp[rowH,List.getElem?_eq_none hb]⟩,fun r hb=> ?_⟩
   ·rcases Nat.lt_or_ge b heap.length with hlt | hge
    ·obtain⟨r,s,e,_⟩:=hst.row b _ (List.getElem?_eq_getElem hlt)
     simp[rowH,List.getElem?_eq_getElem hlt,e] at hb
    ·exact hge
   ·unfold rowH at hb
    split at hb
    ·rename_i r' hr; cases hb; exact hr
    ·cases hb
    ·cases hb
  have hown:∀b r,rowH heap b=some (some r)→r.own=false:=fun b r hb=>by
   obtain⟨r',s,e,h1,_⟩:=hst.row b _ ((eP b).2 r hb)
   cases e; exact h1
  have nobox:∀b,boxH heap b=none:=fun b=>by
   unfold boxH
   split
   ·rename_i cs ty hb
    obtain⟨r,s,e,_⟩:=hst.row b _ hb
    cases e
   ·rfl
  refine jc (P:=P) (n:=args.length+(fn.ntmps-args.length)) (X:=[]) (jd hm 12 cx none hT hS hkeys hF) (fun f hf=>by cases hf; exact⟨rfl,fun r=>jd hm 12 cx (some r) hT hS hkeys hF⟩) hm hT hS hkeys fuel c ⟨w,[],true,none⟩ _ kw _ _ ρ I j _ w trivial (fun _=>⟨rfl,rfl⟩) h hg ⟨⟨rfl,by simp[hlen],?_,fun i v hi=>(by simp at hi),fun b cs ty hb=> ?_,fun b _=>hst.nob b,fun b b' k hb=> ?_,fun b r hb=> ?_,fun b hb=>hst.nos b ((eP b).1.1 hb),fun b b' k r s hb=> ?_,fun b b' r r' s s' k hb ho=> ?_,hst.fb,Ext.refl w,⟨fun k o hz=>(by rw[hst.gh] at hz; have:=mM.1 hz; exact⟨this.1,fun e=>by rw[this.2] at e; cases e⟩),fun k o b hz e=>(by rw[hst.nob] at e; cases e),fun k o id r s hz hF hs hc e=>(by rw[hst.gh] at hz; have h1:=(mM.1 hz).2; have h2:r.own=false:=hown id r hF; exact hc.elim (fun hc=>Bool.noConfusion (h2.symm.trans hc)) (fun hc=>Bool.noConfusion (h1.symm.trans hc))),fun D hD=>(by cases hD),List.nodup_nil,fun id y hy=> ?_,fun id _ _=>(by rw[hst.gh]),fun id r s hF hs=> ?_⟩⟩,(by rw[TM.push_length]; rfl),TM.push_n _ _ _⟩ ?_
  ·intro t ht
   rcases Nat.lt_or_ge t args.length with h1 | h1
   ·obtain⟨u,hu,hd⟩:=hargs t args[t] (List.getElem?_eq_getElem h1)
    refine⟨u,?_,.inr ?_⟩
    ·rw[Array.getElem?_append_left (by simpa[hlen] using h1)]
     simpa using hu
    ·simp only[St.fs,fsOf]
     rw[TM.push_arg _ (Nat.le_add_right _ _) h1,List.getElem?_eq_getElem h1]
     exact hd
   ·refine⟨Go.undef,?_,.inr ?_⟩
    ·rw[Array.getElem?_append_right (by simpa[hlen] using h1)]
     rw[Array.getElem?_replicate,if_pos (by rw[hsz]; omega)]
    ·simp only[St.fs,fsOf]
     rw[TM.push_undef _ (Nat.le_add_right _ _) h1 ht]
     rfl
  ·rw[show(St.mk (TM.push args (args.length+(fn.ntmps-args.length)) ⟨.leaf (.one .undef),0,[]⟩) heap).fs.box b=boxH heap b from rfl,nobox] at hb
   cases hb
  ·rw[hst.nob] at hb; cases hb
  ·obtain⟨r',s,e,h1,h2,h3⟩:=hst.row b _ ((eP b).2 r hb)
   cases e
   exact⟨s,h2,h3⟩
  ·rw[hst.nob] at hb; cases hb
  ·rw[hown b r hb] at ho; cases ho
  ·obtain⟨r,s,e,_⟩:=hst.row id _ (ix.1 hy)
   cases e
  ·exact fun p hp=>by rw[hst.gh]; have h1:=hst.zz id s hs p hp; exact⟨mM.2 h1,h1.2⟩
  ·intro M' sg s' kw' ρ' I' j1' a1' w1' _ h' hg' ha' hI' hl' hv' hr1
   have leave:(∀j' w',At cx ρ' (args.length+(fn.ntmps-args.length)) [] ⟨w,[],true,none⟩ s' j' {a1' with defers:=[]} w'→∃v,(results fn a1'.tmps).run P w'=.ok v w'∧∃u,Ending.returned v=.returned u∧RetOk cx.res tup w w' X u)→LeavesInM (Fw none) 0 P fn a1'.tmps (fun e w'=>∃v,e=.returned v∧RetOk cx.res tup w w' X v) a1'.defers .returning w1':=by
    intro hk
    rw[hr1.rel.defers]
    refine Rel.unmark M' rfl hr1.rel (fun j' w' h2=> ?_)
    obtain⟨v,k1,k2⟩:=hk j' w' ⟨h2,hr1.len,hr1.own⟩
    exact⟨v,k1,k2⟩
   have fin:∀j' w',At cx ρ' (args.length+(fn.ntmps-args.length)) [] ⟨w,[],true,none⟩ s' j' {a1' with defers:=[]} w'→∀xs,resL cx s' fn.results.toList=some xs→∀e,kp kw'.vk s'.heap cx.res xs=some e→iw (oids cx.res xs)=true→e.D ρ'=X→∃v,(results fn a1'.tmps).run P w'=.ok v w'∧∃u,Ending.returned v=.returned u∧RetOk cx.res tup w w' X u:=by
    intro j' w' hr' xs hxs e he hn hX
    obtain⟨vs,h1,h2⟩:=kP hT hr' hxs
    have h3:=mJ hg'.vk hr'.rel he h1
    have h4:=h3.ret (tup:=tup) ht (by rw[eo h1,ko he]) hr'.rel.ext (fun i i' a b k hi hi' hk hk'=> ?_) (fun a ha p hp=> ?_)
    ·rw[hX] at h4
     exact⟨_,h2,_,rfl,h4⟩
    ·cases a with
     | none=>cases hk
     | some a=>
       cases b with
       | none=>cases hk'
       | some b=>
         obtain⟨r,hr1,hr2⟩:=eA he i a hi
         obtain⟨r',hr3,hr4⟩:=eA he i' b hi'
         rw[←gP] at hr1 hr3
         have q1:=dV hr1
         have q2:=dV hr3
         obtain⟨s1,t1,_⟩:=hr'.rel.row a r q1
         obtain⟨s2,t2,_⟩:=hr'.rel.row b r' q2
         simp only[uw,t1,t2,Option.getD_some] at hk hk'
         have:=hr'.rel.rsep a b r r' s1 s2 k q1 hr2 q2 t1 t2 (iD hr2 hk) (iD hr4 hk')
         subst this
         exact ow hn i i' a hi hi'
    ·cases a with
     | none=>cases hp
     | some a=>
       obtain⟨i,hi⟩:=List.getElem?_of_mem ha
       obtain⟨r,hr1,hr2⟩:=eA he i a hi
       have hr0:=hr1
       rw[←gP] at hr1
       have q1:=dV hr1
       obtain⟨s1,t1,t3⟩:=hr'.rel.row a r q1
       cases hev:evAt s'.heap a with
       | false=>simp[svOf,hev] at hp
       | true=>
         have hs1:svOf s'.heap j' (some a)=s1:=by simp[svOf,hev,t1]
         rw[hs1] at hp
         have hkd:r.kd=.ev:=by
          unfold evAt at hev
          rw[hr0] at hev
          exact RK.isEv_eq hev
         obtain⟨z1,z2⟩:=hr'.rel.gs.ev a r s1 q1 t1 p hp
         refine⟨(hr'.rel.gs.at' _ _ z1).1,z2,(t3.2.2 hkd).zb hr2 p hp,fun u hu e=> ?_⟩
         obtain⟨b,hb,rfl⟩:=List.mem_map.1 hu
         cases b with
         | none=>cases e
         | some b=>
           obtain⟨i',hi'⟩:=List.getElem?_of_mem hb
           obtain⟨r',hr3,hr4⟩:=eA he i' b hi'
           rw[←gP] at hr3
           have q2:=dV hr3
           obtain⟨s2,t2,_⟩:=hr'.rel.row b r' q2
           simp only[uw,t2,Option.getD_some] at e
           exact hr'.rel.gs.row _ _ b r' s2 z1 q2 t2 (.inl hr4) (iD hr4 e)
   have fin':(match resL cx s' fn.results.toList with
     | some xs=>match kp kw'.vk s'.heap cx.res xs with
       | some e=>if iw (oids cx.res xs) then .leaf e else .stuck 83
       | none=>.stuck 84
     | none=>.stuck 81:Tr).holds sp (fun ρ e=>e.D ρ=X) ρ' I'→LeavesInM (Fw none) 0 P fn a1'.tmps (fun e w'=>∃v,e=.returned v∧RetOk cx.res tup w w' X v) a1'.defers .returning w1':=by
    intro h'
    split at h'
    ·rename_i xs hxs
     split at h'
     ·rename_i e he
      split at h'
      ·rename_i hn; exact leave (fun j' w' hr'=>fin j' w' hr' xs hxs e he hn h')
      ·exact h'.elim
     ·exact h'.elim
    ·exact h'.elim
   cases sg with
   | exit id=>exact h'.elim
   | normal=>exact fin' h'
   | ret=>exact fin' h'
 ·exact h.elim
end
end Go.Proofs.Ytghiofgomcihcaa
