import Derived.Test.YtghiofgomcihcaaSyG7
set_option linter.unusedVariables false
set_option linter.unusedSimpArgs false
namespace Go.Proofs.Ytghiofgomcihcaa
open Go.RowKit
def kr (d s:E):E:=match cw d (lenW s) with
 | .lnil=>cd s (lenW d)
 | r=>.lcat (cd s (lenW d)) r
theorem abN (ρ:Env) (d s:E):(kr d s).R ρ=(s.R ρ).take (d.R ρ).length++(d.R ρ).drop (s.R ρ).length:=by
 have h1:(cd s (lenW d)).R ρ=(s.R ρ).take (d.R ρ).length:=by rw[fZ,wH]; rfl
 have h2:(cw d (lenW s)).R ρ=(d.R ρ).drop (s.R ρ).length:=by rw[gb,wH]; rfl
 unfold kr
 split
 ·rename_i h
  rw[h] at h2
  rw[h1,←h2]
  simp[E.R]
 ·rw[←h1,←h2]; rfl
def gp (kd:IntKind) (l:E):Nat→Nat→List C
 | _,0=>[]
 | i,n+1=>.int kd (.get l (.lit i) 0)::gp kd l (i+1) n
section
variable {P:Program} {sp:Spec} {ρ:Env} {G:Env→E→Prop} {I:Nat→List Dt→Prop} {base:Nat} {cx:Cx} {vw:Vw} {o:Oper} {k:Eff→Kw→Tr}
theorem xm {α:Type} (F D:List α) (n:Nat) (hD:n≤D.length):(F.take n++D.drop (min F.length n)).take n=F.take n++(D.take n).drop F.length:=by
 rcases Nat.le_total F.length n with h | h
 ·rw[Nat.min_eq_left h,List.take_of_length_le h,List.take_append,List.take_of_length_le h,List.drop_take]
 ·rw[Nat.min_eq_right h,List.drop_eq_nil_of_le (as:=D.take n) (by rw[List.length_take]; omega),List.append_nil,List.take_append,List.take_of_length_le (by rw[List.length_take]; omega)]
  have:n-(F.take n).length=0:=by rw[List.length_take]; omega
  rw[this,List.take_zero,List.append_nil]
theorem xP (hT:∀t i,(t,i)∈cx.ty→TIok P t i) {c:Call} {kw:Kw} (hop:o.op=.call c) (hc:c.callee=.builtin .copy) {did t t':Nat} {d:C} (hl:evL vw.ev c.args.toList=some [.one (.sl did),.one d]) (hty:c.argTypes.toList=[t,t']) {i:TI} (hi:af t cx.ty=some i) {et:Nat} (ha:i.sle=some et) {ie:TI} (hie:af et cx.ty=some ie) (h1s:ie.size=1)
  {q:RowOb} (hrq:vw.sw did=some q) (hown:q.own=true) (hqk:q.ks.length=1)
  (h:(srcK vw d kw fun id r kw=>if bk r.ks q.ks then k {val:=.one (.int .i64 (oA (lenE kw.vk r.l) (lenE kw.vk q.l))),rr:=[did,id],re:=.set did {q with l:=kr q.l r.l}} kw else .stuck 190).holds sp G ρ I) (hg:Good sp cx.sm ρ kw):Sound P sp ρ G I base cx vw o k kw:=by
 obtain⟨id,r,kw1,h1,g1,l1,_,_,hsrc⟩:=jh (base:=base) h hg
 split at h1
 ·rename_i hks
  have hks:=bg hks
  refine⟨_,kw1,h1,g1,l1,fun j a w hb hev hrd hwr hrr hfb K Q hK=> ?_⟩
  obtain⟨p,hp,hokp⟩:=hrr.sl did (by simp) q hrq
  obtain⟨u1,u2,hargs,hd1,hd2⟩:=kG (j:=j) (a:=a) hl (fun x hx=>hev x (by simp[hop,Op.operands,Call.operands]; exact .inr (by simpa using hx)))
  obtain⟨s,e2,hoks,_⟩:=hsrc j w [did,id] u2 hrr (by simp) hd2
  have e1:=gF hp hd1
  subst e1 e2
  have hu:=(hT _ _ (ab hi)).sle et ha
  obtain⟨inf,z,hinf,hisz,_,_,_,_⟩:=(hT _ _ (ab hie)).info
  have hsz1:(P.info? et).map (·.size)=some 1:=by rw[hinf,Option.map_some,hisz,h1s]
  have hat:c.argTypes = #[t,t']:=by rw[←Array.toArray_toList (xs:=c.argTypes),hty]
  have hpn:=hokp.n
  have hsn:=hoks.n
  have hpl:=hokp.rows.len
  have hslen:=hoks.rows.len
  have hval:∀m:Nat,m=min s.n p.n→(V.one (.int .i64 (oA (lenE kw1.vk r.l) (lenE kw1.vk q.l)))).den ρ j=some (goInt m):=fun m hm=>by
   simp only[V.den,C.den,wy,gY hslen,gY hpl,goInt]
   congr 2
   omega
  have hnew:(kr q.l r.l).R ρ=(r.l.R ρ).take p.n++(q.l.R ρ).drop s.n:=by rw[abN,←hpn,←hsn]
  have hnlen:((kr q.l r.l).R ρ).length=p.n:=by rw[hnew,List.length_append,List.length_take,List.length_drop]; omega
  have hnrows:∀x∈(kr q.l r.l).R ρ,ar q.ks x=true:=fun x hx=>by
   rw[hnew,List.mem_append] at hx
   rcases hx with hx | hx
   ·have:=hoks.rows.row x (List.mem_of_mem_take hx); rwa [hks] at this
   ·exact hokp.rows.row x (List.mem_of_mem_drop hx)
  have hown1:=hokp.own hown
  have none_:min s.n p.n=0→(Builtin.copy_ #[t,t'] o.type #[p.v,s.v]).run P w=.ok (goInt 0) w→o.wp P a w K Q:=by
   intro h0 hrun
   have hR:(kr q.l r.l).R ρ=q.l.R ρ:=by
    rw[hnew]
    rcases Nat.eq_zero_or_pos s.n with h | h
    ·have:r.l.R ρ=[]:=List.length_eq_zero_iff.1 (by omega)
     rw[this,h]; simp
    ·have h2:p.n=0:=by omega
     have:q.l.R ρ=[]:=List.length_eq_zero_iff.1 (by omega)
     rw[this,h2]; simp
   refine bs (w':=w) (v:=goInt 0) ?_ (hK _ j w (hval 0 h0.symm) ⟨rfl,p,hp,⟨rfl,rfl,rfl,Nat.le_refl _,fun _ _ _=>rfl⟩,RowOk.mk_own (r:={q with l:=kr q.l r.l}) (Vw.sw_some hrq).2 (by rw[hnlen]) ⟨hnrows,by rw[hnlen]; omega⟩ hokp.pos (by simp only[hR]; exact hown1)⟩)
   simp only[execOp,hop,resolve,hc,hargs,hat,Sem.run_bind,Sem.run_pure,Result.andThen_ok,invoke,builtin,hrun]
  by_cases h0:min s.n p.n=0
  ·refine none_ h0 ?_
   obtain⟨pa,pn,pc⟩:=p
   obtain⟨sa,sn,sc,sz⟩:=s
   exact run_copy_none w t t' o.type et pa sa pn pc sn sc hu hsz1 (by simpa[Nat.min_def] using h0)
  ·have hs0:0<s.n:=by omega
   have hp0:0<p.n:=by omega
   have hrds:=hoks.rd
   rcases hown1.2 with⟨_,hz⟩ | ⟨g,cap,cur,hv,hbg,hh,hnc,hcm,hcs,htake⟩
   ·omega
   ·obtain⟨ad,had⟩:∃ad,s.a=some ad:=by
     cases hsa:s.a with
     | some ad=>exact⟨ad,rfl⟩
     | none=>have:=(hrds.2.2.2.1 hsa).1; omega
    have hflen:(flat r.ks (r.l.R ρ)).length=s.n:=by rw[hrds.1,hks,hqk,Nat.mul_one]
    have hfq:(flat q.ks (q.l.R ρ)).length=p.n:=by rw[hown1.1,hqk,Nat.mul_one]
    have hcsz:cur.size=cap:=by rw[hcs,hqk,Nat.mul_one]
    have hmn:((flat r.ks (r.l.R ρ)).take p.n).length=min s.n p.n:=by rw[List.length_take,hflen,Nat.min_comm]
    have hrun:=run_copy_row (P:=P) w t t' o.type et g 0 p.n cap ad s.n s.c cur q.ty ((flat r.ks (r.l.R ρ)).take p.n) hu hsz1 hh (by rw[hmn])
     (fun m u hm=>by
      rw[List.getElem?_take] at hm
      split at hm
      ·exact hrds.2.2.2.2 ad had m u hm
      ·cases hm) (by rw[hmn,hcsz]; omega) (fun u hu'=>eE u (List.mem_of_mem_take hu'))
    have hsv:s.v=.slice (some ad) s.n s.c:=by
     obtain⟨sa,sn,sc,sz⟩:=s
     simp only at had
     simp only[SV.v,had]
    rw[←hv,←hsv,hmn] at hrun
    have hcurtake:cur.toList.take p.n=flat q.ks (q.l.R ρ):=by rw[hqk,Nat.mul_one] at htake; exact htake
    generalize hnew2:(cur.toList.take 0++(flat r.ks (r.l.R ρ)).take p.n++cur.toList.drop (0+min s.n p.n))=news at hrun
    have hnsz:news.length=cap:=by
     rw[←hnew2]
     simp only[List.take_zero,List.nil_append,List.length_append,List.length_drop,Array.length_toList,hmn,hcsz,Nat.zero_add]
     omega
    have hfn:flat q.ks ((kr q.l r.l).R ρ)=news.take p.n:=by
     have e1:flat q.ks ((r.l.R ρ).take p.n)=(flat r.ks (r.l.R ρ)).take p.n:=by
      have:=gm (ks:=r.ks) (L:=r.l.R ρ) p.n hoks.rows.row
      rw[hks,hqk,Nat.mul_one] at this
      rw[hks,this]
     have e2:flat q.ks ((q.l.R ρ).drop s.n)=(flat q.ks (q.l.R ρ)).drop s.n:=by
      have:=gn (ks:=q.ks) (L:=q.l.R ρ) s.n hokp.rows.row
      rw[hqk,Nat.mul_one] at this
      rw[this]
     rw[hnew,du,e1,e2,←hcurtake,←hnew2]
     simp only[List.take_zero,List.nil_append,Nat.zero_add]
     have e3:=xm (flat r.ks (r.l.R ρ)) cur.toList p.n (by rw[Array.length_toList,hcsz]; exact hnc)
     rw[hflen] at e3
     exact e3.symm
    refine bs (w':=w.setRow g news.toArray) (v:=goInt ((min s.n p.n:Nat):Int)) ?_ (hK _ j _ (hval _ rfl) ⟨rfl,p,hp,⟨rfl,rfl,rfl,by simp,fun m hm hne=>setRow_other w g m _ (fun e=>hne (by rw[hv,e]; rfl))⟩,RowOk.mk_own (r:={q with l:=kr q.l r.l}) (Vw.sw_some hrq).2 (by rw[hnlen]) ⟨hnrows,by rw[hnlen]; omega⟩ hokp.pos ⟨?_,.inr ⟨g,cap,news.toArray,hv,hbg,setRow_heap w g cur _ q.ty (0,0) hh,hnc,hcm,?_,?_⟩⟩⟩)
    ·simp only[execOp,hop,resolve,hc,hargs,hat,Sem.run_bind,Sem.run_pure,Result.andThen_ok,invoke,builtin,hrun]
    ·simp only[hqk,Nat.mul_one]
     rw[hfn,List.length_take,hnsz]
     omega
    ·simp[hqk,hnsz]
    ·simp only[hqk,Nat.mul_one]
     rw[hfn]
 ·exact h1.elim
def aby:C→Bool
 | .sl _ | .wn .. | .aw .. | .nsl=>true
 | _=>false
theorem yP {c:C} (h:aby c=true) {j:J} {v:Value} (hv:(V.one c).den ρ j=some v):∃s:SV,v=s.v:=by
 cases c<;>first | cases h | skip
 ·simp only[V.den,C.den,Option.map_eq_some_iff] at hv
  obtain⟨s,_,rfl⟩:=hv; exact⟨s,rfl⟩
 ·exact⟨⟨none,0,0,[]⟩,iv hv⟩
 ·simp only[V.den,C.den,Option.map_eq_some_iff] at hv
  obtain⟨s,_,rfl⟩:=hv; exact⟨_,rfl⟩
 ·simp only[V.den,C.den,Option.map_eq_some_iff] at hv
  obtain⟨s,_,rfl⟩:=hv; exact⟨_,rfl⟩
theorem nl (hT:∀t i,(t,i)∈cx.ty→TIok P t i) {t:Nat} {x:Operand} {kw:Kw} (hop:o.op=.slice t x none none none) {b off:Nat} (hx:vw.ev x=some (.one (.ptr b off))) {i:TI} (hi:af t cx.ty=some i) {n et:Nat} (ha:i.arr=some (n,et)) {ie:TI} (hie:af et cx.ty=some ie)
  (h:(k {val:=.one (.aw b off n ie.size (.lit 0) (.lit n) (.lit n))} kw).holds sp G ρ I) (hg:Good sp cx.sm ρ kw):Sound P sp ρ G I base cx vw o k kw:=by
 refine⟨_,kw,h,hg,.refl _,OpOk.pure fun j a w _ hev _ _ _=> ?_⟩
 obtain⟨kk,hk,hv⟩:=eU (hev x (by simp[hop,Op.operands]) _ hx)
 have hu:=(hT _ _ (ab hi)).arr _ _ ha
 have hsz:=(hT _ _ (ab hie)).size w
 refine⟨_,by simp only[V.den,C.den,hk,Option.map_some,E.I]; rfl,?_⟩
 by_cases hn:n=0<;>simp[execOp,hop,hv,Instr.sliceAt,run_underlying hu,Sem.run_bind,Instr.sliceBounds,hsz,SV.cut,SV.v,Instr.sureAddr,asAddr,hn]
theorem o7 (hT:∀t i,(t,i)∈cx.ty→TIok P t i) {c:Call} {kw:Kw} (hop:o.op=.call c) (hc:c.callee=.builtin .copy) {t t':Nat} {d:C} (hd:aby d=true) (hl:evL vw.ev c.args.toList=some [.one d,.one .nsl]) (hty:c.argTypes.toList=[t,t']) {i:TI} (hi:af t cx.ty=some i) {et:Nat} (ha:i.sle=some et) {ie:TI} (hie:af et cx.ty=some ie) (h1s:ie.size=1)
  (h:(k {val:=.one (.int .i64 (.lit 0))} kw).holds sp G ρ I) (hg:Good sp cx.sm ρ kw):Sound P sp ρ G I base cx vw o k kw:=by
 refine⟨_,kw,h,hg,.refl _,OpOk.pure fun j a w _ hev _ _ _=> ?_⟩
 obtain⟨u1,u2,hargs,hd1,hd2⟩:=kG (j:=j) (a:=a) hl (fun x hx=>hev x (by simp[hop,Op.operands,Call.operands]; exact .inr (by simpa using hx)))
 obtain⟨s,e1⟩:=yP hd hd1
 have e2:=iv hd2
 subst e1 e2
 have hu:=(hT _ _ (ab hi)).sle et ha
 obtain⟨inf,z,hinf,hisz,_,_,_,_⟩:=(hT _ _ (ab hie)).info
 have hsz1:(P.info? et).map (·.size)=some 1:=by rw[hinf,Option.map_some,hisz,h1s]
 have hat:c.argTypes = #[t,t']:=by rw[←Array.toArray_toList (xs:=c.argTypes),hty]
 refine⟨goInt 0,rfl,?_⟩
 obtain⟨sa,sn,sc,sz⟩:=s
 have hrun:=run_copy_none (P:=P) w t t' o.type et sa none sn sc 0 0 hu hsz1 (Nat.zero_min _)
 simp only[execOp,hop,resolve,hc,hargs,hat,Sem.run_bind,Sem.run_pure,Result.andThen_ok,invoke,builtin,SV.v,hrun]
def isNs:C→Bool
 | .nsl=>true
 | _=>false
theorem wM {c:C} (h:isNs c=true):c=.nsl:=by
 cases c<;>first | rfl | cases h
theorem nA (hT:∀t i,(t,i)∈cx.ty→TIok P t i) {c:Call} {kw:Kw} (hop:o.op=.call c) (hc:c.callee=.builtin .append) {t:Nat} (hl:evL vw.ev c.args.toList=some [.one .nsl,.one .nsl]) (hty:c.argTypes.toList=[t,t]) {i:TI} (hi:af t cx.ty=some i) {et:Nat} (ha:i.sle=some et) {ie:TI} (hie:af et cx.ty=some ie)
  (h:(k {val:=.one .nsl} kw).holds sp G ρ I) (hg:Good sp cx.sm ρ kw):Sound P sp ρ G I base cx vw o k kw:=by
 refine⟨_,kw,h,hg,.refl _,OpOk.pure fun j a w _ hev _ _ _=> ?_⟩
 obtain⟨u1,u2,hargs,hd1,hd2⟩:=kG (j:=j) (a:=a) hl (fun x hx=>hev x (by simp[hop,Op.operands,Call.operands]; exact .inr (by simpa using hx)))
 have e1:=iv hd1
 have e2:=iv hd2
 subst e1 e2
 have hu:=(hT _ _ (ab hi)).sle et ha
 obtain⟨inf,z,hinf,hisz,_,_,_,_⟩:=(hT _ _ (ab hie)).info
 have hat:c.argTypes = #[t,t]:=by rw[←Array.toArray_toList (xs:=c.argTypes),hty]
 refine⟨.slice none 0 0,rfl,?_⟩
 have hrun:=run_append_owned_none (P:=P) w w.heap.size t o.type et inf inf.size hu hinf (.slice none 0 0) 0 [] (World.ownsRow_nil w w.heap.size et inf.size)
 simp only[execOp,hop,resolve,hc,hargs,hat,Sem.run_bind,Sem.run_pure,Result.andThen_ok,invoke,builtin,hrun]
theorem sC (hT:∀t i,(t,i)∈cx.ty→TIok P t i) {t:Nat} {x y:Operand} {kw:Kw} (hop:o.op=.index t x y) {cs:List C} (hx:vw.ev x=some (.agg cs)) {k0:IntKind} {e:E} (hy:vw.ev y=some (.one (.int k0 e))) {i:TI} (hi:af t cx.ty=some i)
  {n et:Nat} (ha:i.arr=some (n,et)) {ie:TI} (hie:af et cx.ty=some ie) (hlen:cs.length=n*ie.size) (h:(decK (inR e n) (fun ok kw=>if ok then(match pX e n ie.size cs 0 ie.size with
    | some ds=>if ie.agg then k {val:=.agg ds} kw else(match ds with
      | [d]=>k {val:=.one d} kw
      | _=>.stuck 195)
    | none=>.stuck 196) else .panic) kw).holds sp G ρ I) (hg:Good sp cx.sm ρ kw):Sound P sp ρ G I base cx vw o k kw:=by
 obtain⟨kw1,g1,q1,_,l1⟩:=ak _ _ _ h hg
 rw[yR] at g1
 split at g1
 ·rename_i hr
  rw[Bool.and_eq_true,decide_eq_true_eq,decide_eq_true_eq] at hr
  have hu:=(hT _ _ (ab hi)).arr n et ha
  have ht:=hT _ _ (ab hie)
  split at g1
  ·rename_i ds hds
   have key:∀{j:J} {a:Act} (w:World),(∀x∈o.op.operands.toList,∀v,vw.ev x=some v→v.den ρ j=some (a.eval x))→∃vs:List Value,denL ρ j ds=some ((vs.drop ((e.I ρ).toNat*ie.size+0)).take ie.size)∧ds.length=ie.size∧(execOp a.eval o).run P w=((part et vs.toArray ((e.I ρ).toNat*ie.size)).run P w).andThen fun v w=>.ok (.value v) w:=by
    intro j a w hev
    have hd:=hev x (by simp[hop,Op.operands]) _ hx
    simp only[V.den,Option.map_eq_some_iff] at hd
    obtain⟨vs,hvs,hp⟩:=hd
    have hq:=aQ (hev y (by simp[hop,Op.operands]) _ hy)
    obtain⟨e1,e2⟩:=mL hvs hr.1 hr.2 ie.size 0 ds hds
    refine⟨vs,e2,e1,?_⟩
    simp[execOp,hop,←hp,hq,Instr.index,run_underlying hu,asIntOf,hr,ht.size,Sem.run_bind]
   split at g1
   ·rename_i hagg
    refine⟨_,kw1,g1,q1,l1,OpOk.pure fun j a w _ hev _ _ _=> ?_⟩
    obtain⟨vs,h1,h2,h3⟩:=key (j:=j) (a:=a) w hev
    refine⟨.agg ((vs.drop ((e.I ρ).toNat*ie.size+0)).take ie.size).toArray,by simp only[V.den,h1,Option.map_some],?_⟩
    rw[h3]
    have h4:vs.toArray.extract ((e.I ρ).toNat*ie.size) ((e.I ρ).toNat*ie.size+ie.size)=((vs.drop ((e.I ρ).toNat*ie.size+0)).take ie.size).toArray:=by
     simp[List.extract_eq_take_drop]
    simp only[part,Sem.run_bind,ht.agg,hagg,Result.andThen_ok,if_true,ht.size,h4,Sem.run_pure]
   ·rename_i hagg
    split at g1
    ·rename_i d
     refine⟨_,kw1,g1,q1,l1,OpOk.pure fun j a w _ hev _ _ _=> ?_⟩
     obtain⟨vs,h1,h2,h3⟩:=key (j:=j) (a:=a) w hev
     simp only[denL] at h1
     cases hdd:d.den ρ j with
     | none=>rw[hdd] at h1; cases h1
     | some v=>
       rw[hdd,Option.some.injEq] at h1
       refine⟨v,hdd,?_⟩
       have hz:ie.size=1:=h2.symm
       have h4:vs[(e.I ρ).toNat*ie.size]? =some v:=by
        have:=congrArg (fun l=>l[0]?) h1
        simp only[List.getElem?_cons_zero,List.getElem?_take,hz,List.getElem?_drop,Nat.add_zero] at this
        rw[if_pos (by omega)] at this
        rw[hz]; exact this.symm
       have h5:vs.toArray[(e.I ρ).toNat*ie.size]? =some v:=by simpa using h4
       have hagg':ie.agg=false:=by simpa using hagg
       rw[h3]
       simp only[part,Sem.run_bind,ht.agg,hagg',Result.andThen_ok,h5]
       simp
    ·exact g1.elim
  ·exact g1.elim
 ·exact g1.elim
def acz:Option Operand→Bool
 | some (.const _)=>true
 | _=>false
def opX (cx:Cx) (vw:Vw) (op:Op) (kw:Kw) (k:Eff→Kw→Tr):Option Tr:=match op with
 | .binOp op xt x y _=>match vw.ev x,vw.ev y with
   | some (.one c),some (.one d)=>match af xt cx.ty with
     | some i=>
       if Nat.beq i.kd 1 then(match rh c d,op with
        | some b,.eql=>some (k {val:=.one (.bool (.tt b))} kw)
        | some b,.neq=>some (k {val:=.one (.bool (.tt (!b)))} kw)
        | _,_=>none)
       else if Nat.beq i.kd 2 then(match c,d with
        | .str a,.str b=>if a.lok kw.vk [some .u8]&&b.lok kw.vk [some .u8] then(match op with
          | .eql=>some (k {val:=.one (.bool (.leq a b))} kw)
          | .neq=>some (k {val:=.one (.bool (bL (.leq a b)))} kw)
          | _=>none) else none
        | _,_=>none)
       else none
     | none=>none
   | _,_=>none
 | .slice t x lo hi mx=>match vw.ev x,af t cx.ty with
   | some (.one (.sl id)),some i=>if(acR cx||mx.isSome)&&(hi.isSome||mx.isNone) then(match i.sle with
     | some et=>match af et cx.ty,vw.sw id with
       | some ie,some r=>match idxE vw lo (.lit 0),idxE vw hi (aY r.l),idxM vw mx with
         | some a,some b,some m=>if Nat.beq r.ks.length ie.size&&(r.own ||!(acz lo&&(hi.isNone&&mx.isNone))) then some (decK (winE r.l a b m) (fun ok kw=>if ok then k {val:=.one (.wn id ie.size a b m),rr:=[id]} kw else .panic) kw) else none
         | _,_,_=>none
       | _,_=>none
     | none=>none) else none
   | some (.one (.ptr b off)),some i=>match i.arr,lo,hi,mx with
     | some (n,et),none,none,none=>match af et cx.ty with
       | some ie=>some (k {val:=.one (.aw b off n ie.size (.lit 0) (.lit n) (.lit n))} kw)
       | none=>none
     | _,_,_,_=>none
   | _,_=>none
 | .indexAddr t x y=>match vw.ev x,vw.ev y,af t cx.ty with
   | some (.one (.wn id sz lo hi mx)),some (.one (.int _ e)),some i=>match i.sle with
     | some et=>match af et cx.ty,vw.sw id with
       | some ie,some r=>if Nat.beq r.ks.length ie.size&&Nat.beq sz ie.size then
        some (decK (winE r.l lo hi mx) (fun ok kw=>if ok then decK (inB e (cw (cd r.l hi) lo)) (fun b kw=>if b then k {val:=.one (.ep id ie.size (sumE lo e) 0),rr:=[id]} kw else .panic) kw else .stuck 185) kw)
         else none
       | _,_=>none
     | none=>none
   | some (.one (.fp b off)),some (.one (.int _ e)),some i=>match i.arr with
     | some (n,et)=>match af et cx.ty with
       | some ie=>some (mj e n (fun m kw=>k {val:=.one (.fp b (off+m*ie.size))} kw) n kw)
       | none=>none
     | none=>none
   | _,_,_=>none
 | .index t x y=>match vw.ev x,vw.ev y,af t cx.ty with
   | some (.agg cs),some (.one (.int _ e)),some i=>if aah cx &&!e.isLit then(match i.arr with
     | some (n,et)=>match af et cx.ty with
       | some ie=>if Nat.beq cs.length (n*ie.size) then some (decK (inR e n) (fun ok kw=>if ok then(match pX e n ie.size cs 0 ie.size with
        | some ds=>if ie.agg then k {val:=.agg ds} kw else(match ds with
          | [d]=>k {val:=.one d} kw
          | _=>.stuck 195)
        | none=>.stuck 196) else .panic) kw) else none
       | none=>none
     | none=>none) else none
   | _,_,_=>none
 | .convert s d x=>match vw.ev x,af s cx.ty,af d cx.ty with
   | some (.one c),some is,some id0=>if ac3 c&&Nat.beq id0.kd 2 then(match is.sle with
     | some et=>match af et cx.ty with
       | some ie=>(match ie.ik with
         | some .u8=>some (srcK vw c kw fun id r kw=>if bk r.ks [some .u8] then k {val:=.one (.str r.l),rr:=[id]} kw else .stuck 188)
         | _=>none)
       | none=>none
     | none=>none) else none
   | _,_,_=>none
 | .call c=>match c.callee with
   | .builtin .len=>match evL vw.ev c.args.toList,c.argTypes.toList with
     | some [.one d],[t]=>if acy d then(match af t cx.ty with
       | some i=>if i.sle.isSome then some (srcK vw d kw fun id r kw=>k {val:=.one (.int .i64 (lenE kw.vk r.l)),rr:=[id]} kw) else none
       | none=>none) else none
     | _,_=>none
   | .builtin .append=>match evL vw.ev c.args.toList,c.argTypes.toList with
     | some [.one q,.one d],[t,t']=>if acy d&&Nat.beq t t' then(match af t cx.ty with
       | some i=>match i.sle with
         | some et=>match af et cx.ty with
           | some ie=>if decide (0<ie.size)&&decide (ie.bytes≤65536) then(match q with
             | .nsl=>some (srcK vw d kw fun id r kw=>if Nat.beq r.ty et&&Nat.beq r.ks.length ie.size then decK (mkLt (aY r.l) (.lit bigB)) (fun b kw=>if b then k {val:=.one (.sl vw.nid),rr:=[id],re:=.mk [⟨r.ks,et,r.l,true,.sl⟩]} kw else .panic) kw else .stuck 186)
             | .sl old=>match vw.sw old with
               | some q=>if q.own then some (srcK vw d kw fun id r kw=>if Nat.beq r.ty et&&(Nat.beq r.ks.length ie.size&&(Nat.beq q.ty et&&(bk q.ks r.ks &&!Nat.beq old id))) then decK (cE (mkLt (aY q.l) (.lit bigB)) (mkLt (aY r.l) (.lit bigB))) (fun b kw=>if b then k {val:=.one (.sl vw.nid),rr:=[old,id],re:=.app old ⟨r.ks,et,catE q.l r.l,true,.sl⟩} kw else .panic) kw else .stuck 187) else none
               | none=>none
             | _=>none) else none
           | none=>none
         | none=>none
       | none=>none) else if isNs q&&(isNs d&&Nat.beq t t') then(match af t cx.ty with
       | some i=>match i.sle with
         | some et=>if(af et cx.ty).isSome then some (k {val:=.one .nsl} kw) else none
         | none=>none
       | none=>none) else none
     | _,_=>none
   | .builtin .copy=>match evL vw.ev c.args.toList,c.argTypes.toList with
     | some [.one q,.one d],[t,_]=>match af t cx.ty with
       | some i=>match i.sle with
         | some et=>match af et cx.ty with
           | some ie=>if Nat.beq ie.size 1 then(match d with
             | .nsl=>if aby q then some (k {val:=.one (.int .i64 (.lit 0))} kw) else none
             | d=>match q with
               | .sl did=>match vw.sw did with
                 | some q=>if q.own&&Nat.beq q.ks.length 1 then some (srcK vw d kw fun id r kw=>if bk r.ks q.ks then k {val:=.one (.int .i64 (oA (lenE kw.vk r.l) (lenE kw.vk q.l))),rr:=[did,id],re:=.set did {q with l:=kr q.l r.l}} kw else .stuck 190) else none
                 | none=>none
               | _=>none) else none
           | none=>none
         | none=>none
       | none=>none
     | _,_=>none
   | _=>none
 | _=>none
theorem acm (hT:∀t i,(t,i)∈cx.ty→TIok P t i) {kw:Kw} {tr:Tr} (ht:opX cx vw o.op kw k=some tr) (h:tr.holds sp G ρ I) (hg:Good sp cx.sm ρ kw):Sound P sp ρ G I base cx vw o k kw:=by
 cases hop:o.op<;>rw[hop] at ht<;>simp only[opX] at ht
 case binOp op xt x y yt=>
  split at ht
  ·rename_i c d hx hy
   split at ht
   ·rename_i i hi
    split at ht
    ·rename_i hk
     split at ht
     ·rename_i b hb; cases ht; exact uE hT (.inl rfl) hop hx hy hi (Nat.eq_of_beq_eq_true hk) hb h hg
     ·rename_i b hb; cases ht; exact uE hT (.inr rfl) hop hx hy hi (Nat.eq_of_beq_eq_true hk) hb h hg
     ·cases ht
    ·split at ht
     ·rename_i hk
      split at ht
      ·rename_i a b
       split at ht
       ·rename_i hl
        rw[Bool.and_eq_true] at hl
        split at ht
        ·cases ht; exact ny hT (.inl rfl) hop hx hy hi (Nat.eq_of_beq_eq_true hk) hl.1 hl.2 h hg
        ·cases ht; exact ny hT (.inr rfl) hop hx hy hi (Nat.eq_of_beq_eq_true hk) hl.1 hl.2 h hg
        ·cases ht
       ·cases ht
      ·cases ht
     ·cases ht
   ·cases ht
  ·cases ht
 case slice t x lo hi' mx=>
  split at ht
  ·rename_i id i hx hi
   split at ht
   ·rename_i hw
    rw[Bool.and_eq_true] at hw
    split at ht
    ·rename_i et ha
     split at ht
     ·rename_i ie r hie hr
      split at ht
      ·rename_i a b m hlo hhi hmx
       split at ht
       ·rename_i hks
        cases ht
        rw[Bool.and_eq_true] at hks
        refine aal hT hop hx hi ha hie hr (Nat.eq_of_beq_eq_true hks.1) hlo hhi hmx (fun e=> ?_) h hg
        subst e
        cases mx with
        | none=>rfl
        | some m=>have:=hw.2; simp at this
       ·cases ht
      ·cases ht
     ·cases ht
    ·cases ht
   ·cases ht
  ·rename_i b off i hx hi
   split at ht
   ·rename_i n et ha
    split at ht
    ·rename_i ie hie; cases ht; exact nl hT hop hx hi ha hie h hg
    ·cases ht
   ·cases ht
  ·cases ht
 case indexAddr t x y=>
  split at ht
  ·rename_i id sz lo hi' mx k0 e i hx hy hi
   split at ht
   ·rename_i et ha
    split at ht
    ·rename_i ie r hie hr
     split at ht
     ·rename_i hks
      rw[Bool.and_eq_true] at hks
      cases ht
      exact sB hT hop hx hy hi ha hie hr (Nat.eq_of_beq_eq_true hks.1) (Nat.eq_of_beq_eq_true hks.2) h hg
     ·cases ht
    ·cases ht
   ·cases ht
  ·rename_i b off k0 e i hx hy hi
   split at ht
   ·rename_i n et ha
    split at ht
    ·rename_i ie hie
     cases ht
     exact de hT hop hx hy hi ha hie (c':=fun m=>.fp b (off+m*ie.size)) (fun m j v hv=>rF hv) h hg
    ·cases ht
   ·cases ht
  ·cases ht
 case index t x y=>
  split at ht
  ·rename_i cs k0 e i hx hy hi
   split at ht
   ·split at ht
    ·rename_i n et ha
     split at ht
     ·rename_i ie hie
      split at ht
      ·rename_i hl
       cases ht
       exact sC hT hop hx hy hi ha hie (Nat.eq_of_beq_eq_true hl) h hg
      ·cases ht
     ·cases ht
    ·cases ht
   ·cases ht
  ·cases ht
 case convert s d x=>
  split at ht
  ·rename_i c is id0 hx his hid
   split at ht
   ·rename_i hc
    rw[Bool.and_eq_true] at hc
    split at ht
    ·rename_i et hse
     split at ht
     ·rename_i ie hie
      split at ht
      ·rename_i hik
       cases ht
       exact aam hT hop hx his hse hie hik hid (Nat.eq_of_beq_eq_true hc.2) h hg
      ·cases ht
     ·cases ht
    ·cases ht
   ·cases ht
  ·cases ht
 case call c=>
  split at ht
  ·rename_i hc
   split at ht
   ·rename_i d t hl hty
    split at ht
    ·split at ht
     ·rename_i i hi
      split at ht
      ·rename_i hsl; cases ht; exact xN hT hop hc hl hty hi hsl h hg
      ·cases ht
     ·cases ht
    ·cases ht
   ·cases ht
  ·rename_i hc
   split at ht
   ·rename_i q d t t' hl hty
    split at ht
    ·rename_i htt
     rw[Bool.and_eq_true] at htt
     have htt:=Nat.eq_of_beq_eq_true htt.2
     subst htt
     split at ht
     ·rename_i i hi
      split at ht
      ·rename_i et ha
       split at ht
       ·rename_i ie hie
        split at ht
        ·rename_i hp
         simp only[Bool.and_eq_true,decide_eq_true_eq] at hp
         split at ht
         ·cases ht; exact uP hT hop hc hl hty hi ha hie hp h hg
         ·rename_i old
          split at ht
          ·rename_i q hq
           split at ht
           ·rename_i hown; cases ht; exact xS hT hop hc hl hty hi ha hie hp hq hown h hg
           ·cases ht
          ·cases ht
         ·cases ht
        ·cases ht
       ·cases ht
      ·cases ht
     ·cases ht
    ·split at ht
     ·rename_i hns
      rw[Bool.and_eq_true,Bool.and_eq_true] at hns
      obtain⟨n1,n2,n3⟩:=hns
      have n3:=Nat.eq_of_beq_eq_true n3
      have n1:=wM n1
      have n2:=wM n2
      subst n1 n2 n3
      split at ht
      ·rename_i i hi
       split at ht
       ·rename_i et ha
        split at ht
        ·rename_i hsm
         obtain⟨ie,hie⟩:=Option.isSome_iff_exists.1 hsm
         cases ht; exact nA hT hop hc hl hty hi ha hie h hg
        ·cases ht
       ·cases ht
      ·cases ht
     ·cases ht
   ·cases ht
  ·rename_i hc
   split at ht
   ·rename_i q d t t' hl hty
    split at ht
    ·rename_i i hi
     split at ht
     ·rename_i et ha
      split at ht
      ·rename_i ie hie
       split at ht
       ·rename_i h1
        have h1:=Nat.eq_of_beq_eq_true h1
        split at ht
        ·split at ht
         ·rename_i hq; cases ht; exact o7 hT hop hc hq hl hty hi ha hie h1 h hg
         ·cases ht
        ·split at ht
         ·rename_i did
          split at ht
          ·rename_i q hq
           split at ht
           ·rename_i hk
            rw[Bool.and_eq_true] at hk
            cases ht
            exact xP hT hop hc hl hty hi ha hie h1 hq hk.1 (Nat.eq_of_beq_eq_true hk.2) h hg
           ·cases ht
          ·cases ht
         ·cases ht
       ·cases ht
      ·cases ht
     ·cases ht
    ·cases ht
   ·cases ht
  ·cases ht
 all_goals cases ht
end
end Go.Proofs.Ytghiofgomcihcaa
