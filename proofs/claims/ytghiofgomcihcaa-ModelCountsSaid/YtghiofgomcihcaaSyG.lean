import Derived.Test.YtghiofgomcihcaaSyF
set_option linter.unusedVariables false
set_option linter.unusedSimpArgs false
namespace Go.Proofs.Ytghiofgomcihcaa
open Go.RowKit
section
variable {P:Program} {sp:Spec} {ρ:Env} {G:Env→E→Prop} {I:Nat→List Dt→Prop} {base:Nat} {cx:Cx} {vw:Vw} {o:Oper} {k:Eff→Kw→Tr}
theorem lA {e:E} {n:Nat} {kk:Nat→Kw→Tr}:∀(m:Nat) (kw:Kw),m≤n→(lB e n kk m kw).holds sp G ρ I→Good sp cx.sm ρ kw→∃i kw',i<n∧e.I ρ=(i:Int)∧(kk i kw').holds sp G ρ I∧Good sp cx.sm ρ kw'∧KwGe kw' kw
 | 0,kw,_,h,hg=>h.elim
 | m+1,kw,hm,h,hg=>by
   simp only[lB] at h
   obtain⟨kw1,h1,g1,_,l1⟩:=ak _ _ _ h hg
   rw[kh] at h1
   split at h1
   ·rename_i hb
    have hb':e.I ρ=((n-(m+1):Nat):Int):=by simpa[E.I] using hb
    exact⟨n-(m+1),kw1,by omega,hb',h1,g1,l1⟩
   ·obtain⟨i,kw2,h2,h3,h4,g2,l2⟩:=lA m kw1 (by omega) h1 g1
    exact⟨i,kw2,h2,h3,h4,g2,l2.trans l1⟩
theorem db (hT:∀t i,(t,i)∈cx.ty→TIok P t i) {t:Nat} {x y:Operand} {kw:Kw} (hop:o.op=.indexAddr t x y) {c:C} {c':Nat→C} (hx:vw.ev x=some (.one c)) {k0:IntKind} {e:E} (hy:vw.ev y=some (.one (.int k0 e))) {i:TI} (hi:af t cx.ty=some i)
  {n et:Nat} (ha:i.arr=some (n,et)) {ie:TI} (hie:af et cx.ty=some ie) (hmv:∀m j v,c.den ρ j=some v→∃a,v=.pointer (some a)∧(c' m).den ρ j=some (.pointer (some (a.add (m*ie.size)))))
  (h:(lB e n (fun m kw=>k {val:=.one (c' m)} kw) n kw).holds sp G ρ I) (hg:Good sp cx.sm ρ kw):Sound P sp ρ G I base cx vw o k kw:=by
 obtain⟨m,kw',hm,he,h1,g1,l1⟩:=lA n kw (Nat.le_refl _) h hg
 have hu:=(hT _ _ (ab hi)).arr n et ha
 have hs:=(hT _ _ (ab hie)).size
 refine⟨_,kw',h1,g1,l1,OpOk.pure fun j a w _ hev _ _ _=> ?_⟩
 obtain⟨p,hp,hd⟩:=hmv m j _ (hev x (by simp[hop,Op.operands]) _ hx)
 have hq:=aL (hev y (by simp[hop,Op.operands]) _ hy)
 refine⟨_,hd,?_⟩
 have hlt:(0:Int)≤(m:Int)∧(m:Int)<(n:Int):=by omega
 simp[execOp,hop,hp,hq,he,Instr.indexAt,run_underlying hu,Instr.sureAddr,asIntOf,hlt,hs,Sem.run_bind]
 omega
theorem tH (hT:∀t i,(t,i)∈cx.ty→TIok P t i) {t:Nat} {x y:Operand} {kw:Kw} (hop:o.op=.index t x y) {cs:List C} (hx:vw.ev x=some (.agg cs)) {k0:IntKind} {e:E} (hy:vw.ev y=some (.one (.int k0 e))) {i:TI} (hi:af t cx.ty=some i)
  {n et:Nat} (ha:i.arr=some (n,et)) {ie:TI} (hie:af et cx.ty=some ie) (h:(lB e n (fun m kw=>match rG cx et cs (m*ie.size) with | some v=>k {val:=v} kw | none=>.stuck 30) n kw).holds sp G ρ I) (hg:Good sp cx.sm ρ kw):Sound P sp ρ G I base cx vw o k kw:=by
 obtain⟨m,kw',hm,he,h1,g1,l1⟩:=lA n kw (Nat.le_refl _) h hg
 have hu:=(hT _ _ (ab hi)).arr n et ha
 have hs:=(hT _ _ (ab hie)).size
 split at h1
 ·rename_i v hv
  refine⟨_,kw',h1,g1,l1,OpOk.pure fun j a w _ hev _ _ _=> ?_⟩
  have hd:=hev x (by simp[hop,Op.operands]) _ hx
  simp only[V.den,Option.map_eq_some_iff] at hd
  obtain⟨vs,hvs,hp⟩:=hd
  have hq:=aL (hev y (by simp[hop,Op.operands]) _ hy)
  obtain⟨u,hu',hr⟩:=uF hT hv hvs w
  refine⟨u,hu',?_⟩
  have hlt:(0:Int)≤(m:Int)∧(m:Int)<(n:Int):=by omega
  simp[execOp,hop,←hp,hq,he,Instr.index,run_underlying hu,asIntOf,hlt,hs,Sem.run_bind,hr]
  omega
 ·exact h1.elim
theorem rO (ρ:Env) (e l:E):(inB e l).B ρ=(decide (0≤e.I ρ)&&decide (e.I ρ<((l.R ρ).length:Int))):=by
 simp only[inB,bO,bi,aA,ay,E.I]
 rw[jf]
 rfl
theorem mD (hT:∀t i,(t,i)∈cx.ty→TIok P t i) {t:Nat} {x y:Operand} {kw:Kw} (hop:o.op=.indexAddr t x y) {id:Nat} (hx:vw.ev x=some (.one (.sl id))) {k0:IntKind} {e:E} (hy:vw.ev y=some (.one (.int k0 e))) {i:TI} (hi:af t cx.ty=some i)
  {et:Nat} (ha:i.sle=some et) {ie:TI} (hie:af et cx.ty=some ie) {r:RowOb} (hr:vw.sw id=some r) (hks:r.ks.length=ie.size)
  (h:(decK (inB e r.l) (fun b kw=>if b then k {val:=.one (.ep id ie.size e 0),rr:=[id]} kw else .panic) kw).holds sp G ρ I) (hg:Good sp cx.sm ρ kw):Sound P sp ρ G I base cx vw o k kw:=by
 obtain⟨kw',h1,g1,_,l1⟩:=ak _ _ _ h hg
 rw[rO] at h1
 split at h1
 ·rename_i hb
  simp only[Bool.and_eq_true,decide_eq_true_eq] at hb
  refine⟨_,kw',h1,g1,l1,OpOk.pure fun j a w _ hev _ hrr _=> ?_⟩
  obtain⟨s,hs,hok⟩:=hrr.sl id (by simp) r hr
  have hd:=hev x (by simp[hop,Op.operands]) _ hx
  simp only[V.den,C.den,hs,Option.map_some,Option.some.injEq] at hd
  have hq:=aL (hev y (by simp[hop,Op.operands]) _ hy)
  have hu:=(hT _ _ (ab hi)).sle et ha
  have hsz:=(hT _ _ (ab hie)).size
  obtain⟨sa,sn,sc,sz⟩:=s
  have hn:=hok.n
  simp only at hn
  have hrd:=hok.rd
  cases sa with
  | none=>have:=(hrd.2.2.2.1 rfl).1; simp only at this; omega
  | some p=>
    refine⟨.pointer (some (p.add ((e.I ρ).toNat*ie.size+0))),by simp[V.den,C.den,hs,SV.elem],?_⟩
    have hlt:(0:Int)≤e.I ρ∧e.I ρ<(sn:Int):=by omega
    simp[execOp,hop,←hd,SV.v,hq,Instr.indexAt,run_underlying hu,asIntOf,hlt,hsz,Sem.run_bind]
 ·exact h1.elim
theorem bz {a:Addr} {w:World}:∀(vs:List Value) (i:Nat) (acc:Array Value),(∀m u,vs[m]? =some u→w.cell? (a.add (i+m))=some u)→(loadCellsFrom a i vs.length acc).run P w=.ok (acc++vs.toArray) w
 | [],i,acc,_=>by simp[loadCellsFrom]
 | v::vs,i,acc,h=>by
   have h0:=h 0 v rfl
   simp only[Nat.add_zero] at h0
   simp only[List.length_cons,loadCellsFrom,Sem.run_bind,load,Sem.run,h0,Result.andThen_ok]
   rw[bz vs (i+1) _ (fun m u hu=>by rw[Nat.add_assoc,Nat.add_comm 1 m]; exact h (m+1) u (by simpa using hu))]
   simp
theorem eZ {j:J}:∀{cs:List C} {vs:List Value},cs.length=vs.length→(∀(m:Nat) c,cs[m]? =some c→∃u,vs[m]? =some u∧c.den ρ j=some u)→denL ρ j cs=some vs
 | [],vs,hl,_=>by
   cases vs with
   | nil=>rfl
   | cons=>cases hl
 | c::cs,vs,hl,h=>by
   cases vs with
   | nil=>cases hl
   | cons v vs=>
     obtain⟨u,hu,hd⟩:=h 0 c rfl
     simp only[List.getElem?_cons_zero,Option.some.injEq] at hu
     subst hu
     have:=eZ (cs:=cs) (vs:=vs) (by simpa using hl) (fun m c hm=>by simpa using h (m+1) c (by simpa using hm))
     simp[denL,hd,this]
theorem dJ {ld:Nat→Nat→Option C} {b:Nat}:∀(n o:Nat) (cs:List C),dK ld b o n=some cs→cs.length=n∧∀m c,cs[m]? =some c→ld b (o+m)=some c
 | 0,o,cs,h=>by cases h; exact⟨rfl,fun m c hm=>by simp at hm⟩
 | n+1,o,cs,h=>by
   simp only[dK] at h
   cases hc:ld b o with
   | none=>rw[hc] at h; cases h
   | some c=>
     cases hl:dK ld b (o+1) n with
     | none=>rw[hc,hl] at h; cases h
     | some l=>
       rw[hc,hl] at h; cases h
       obtain⟨h1,h2⟩:=dJ n (o+1) l hl
       refine⟨by simp[h1],fun m c' hm=> ?_⟩
       cases m with
       | zero=>simp at hm; subst hm; exact hc
       | succ m=>rw[show o+(m+1)=o+1+m by omega]; exact h2 m c' (by simpa using hm)
theorem vt {j:J} {b off:Nat} {v:Value} (h:(V.one (.fp b off)).den ρ j=some v):∃kk,j.f b=some kk∧v=.pointer (some ⟨kk,off,none⟩):=by
 simp only[V.den,C.den,Option.map_eq_some_iff] at h
 obtain⟨kk,hk,rfl⟩:=h
 exact⟨kk,hk,rfl⟩
theorem kX (hT:∀t i,(t,i)∈cx.ty→TIok P t i) {t:Nat} {x:Operand} {kw:Kw} (hop:o.op=.load t x) {b off:Nat} (hx:vw.ev x=some (.one (.fp b off))) {i:TI} (hi:af t cx.ty=some i) (hagg:i.agg=true) {cs:List C} (hcs:dK (fun b o=>(vw.fb b).bind (·[o]?)) b off i.size=some cs) (hsol:cs.all C.solid=true)
  (h:(k {val:=.agg cs} kw).holds sp G ρ I) (hg:Good sp cx.sm ρ kw):Sound P sp ρ G I base cx vw o k kw:=by
 refine⟨_,kw,h,hg,.refl _,OpOk.pure fun j a w _ hev _ _ hfb=> ?_⟩
 have ht:=hT _ _ (ab hi)
 obtain⟨kk,hk,he⟩:=vt (hev x (by simp[hop,Op.operands]) _ hx)
 obtain⟨hlen,hget⟩:=dJ _ _ _ hcs
 by_cases h0:i.size=0
 ·have hnil:cs=[]:=List.eq_nil_of_length_eq_zero (by omega)
  subst hnil
  refine⟨.agg #[],rfl,?_⟩
  simp[execOp,hop,he,Instr.loadAt,Instr.sureAddr,Sem.run_bind,loadVar,ht.agg,hagg,ht.size,loadCells,h0,loadCellsFrom]
 have hcont:∃c0,vw.fb b=some c0:=by
  cases hb:vw.fb b with
  | some c0=>exact⟨c0,rfl⟩
  | none=>
    exfalso
    have h1:0<cs.length:=by omega
    have:=hget 0 cs[0] (List.getElem?_eq_getElem h1)
    simp[hb] at this
 obtain⟨c0,hc0⟩:=hcont
 obtain⟨kk',vs,h1,_,h2,h3⟩:=hfb b c0 hc0
 rw[hk] at h1; cases h1
 have hv:∀m c,cs[m]? =some c→∃u,vs[off+m]? =some u∧c.den ρ j=some u:=fun m c hm=>by
  have:=hget m c hm
  simp only[hc0,Option.bind_some] at this
  exact bs h2 (off+m) c this
 have hus:denL ρ j cs=some ((vs.drop off).take i.size):=by
  refine eZ ?_ (fun m c hm=> ?_)
  ·rw[List.length_take,List.length_drop,hlen]
   obtain⟨u,hu,_⟩:=hv (cs.length-1) cs[cs.length-1] (List.getElem?_eq_getElem (by omega))
   have:=(List.getElem?_eq_some_iff.1 hu).1
   omega
  ·obtain⟨u,hu,hd⟩:=hv m c hm
   refine⟨u,?_,hd⟩
   have hlt:=(List.getElem?_eq_some_iff.1 hm).1
   rw[List.getElem?_take,if_pos (by omega),List.getElem?_drop]
   exact hu
 have hl:=au hus
 refine⟨_,by simp only[V.den,hus]; rfl,?_⟩
 have h4:=bz (P:=P) (a:=⟨kk,off,none⟩) (w:=w) ((vs.drop off).take i.size) 0 #[] (fun m u hu=>by
  rw[be,Nat.zero_add]
  have hlt:m<i.size:=by
   have:=(List.getElem?_eq_some_iff.1 hu).1
   rw[List.length_take] at this; omega
  rw[List.getElem?_take,if_pos hlt,List.getElem?_drop] at hu
  refine h3 _ u hu ?_
  have hc:=List.getElem?_eq_getElem (show m<cs.length by omega)
  have hg:=hget m _ hc
  simp only[hc0,Option.bind_some] at hg
  unfold dA
  rw[List.getD_eq_getElem?_getD,hg]
  exact List.all_eq_true.1 hsol _ (List.getElem_mem _))
 rw[hl,hlen] at h4
 simp[execOp,hop,he,Instr.loadAt,Instr.sureAddr,Sem.run_bind,loadVar,ht.agg,hagg,ht.size,loadCells,h4]
theorem kY (hT:∀t i,(t,i)∈cx.ty→TIok P t i) {t:Nat} {x:Operand} {kw:Kw} (hop:o.op=.load t x) {b off:Nat} (hx:vw.ev x=some (.one (.fp b off))) {i:TI} (hi:af t cx.ty=some i) (hagg:¬i.agg=true) {c:C} (hc:(vw.fb b).bind (·[off]?)=some c) (hsol:c.solid=true)
  (h:(k {val:=.one c} kw).holds sp G ρ I) (hg:Good sp cx.sm ρ kw):Sound P sp ρ G I base cx vw o k kw:=by
 refine⟨_,kw,h,hg,.refl _,OpOk.pure fun j a w _ hev _ _ hfb=> ?_⟩
 have ht:=hT _ _ (ab hi)
 obtain⟨kk,hk,he⟩:=vt (hev x (by simp[hop,Op.operands]) _ hx)
 rw[Option.bind_eq_some_iff] at hc
 obtain⟨c0,hc0,hc⟩:=hc
 obtain⟨kk',vs,h1,_,h2,h3⟩:=hfb b c0 hc0
 rw[hk] at h1; cases h1
 obtain⟨u,hu,hd⟩:=bs h2 off c hc
 have hagg':i.agg=false:=by simpa using hagg
 have h4:=h3 off u hu (by unfold dA; rw[List.getD_eq_getElem?_getD,hc]; exact hsol)
 exact⟨u,hd,by simp[execOp,hop,he,Instr.loadAt,Instr.sureAddr,Sem.run_bind,loadVar,ht.agg,hagg',load,Sem.run,h4]⟩
theorem oZ {j:J} {id esz off:Nat} {e:E} {v:Value} {s:SV} (hs:j.s id=some s) (h:(V.one (.ep id esz e off)).den ρ j=some v):∃a,s.a=some a∧v=.pointer (some (a.add ((e.I ρ).toNat*esz+off))):=by
 simp only[V.den,C.den,hs,Option.bind_some,SV.elem,Option.map_eq_some_iff] at h
 obtain⟨a,ha,rfl⟩:=h
 exact⟨a,ha,rfl⟩
theorem lw (ρ:Env) (j:J) (l e:E) (c:Nat) (k:CE):(rowC l e c k).den ρ j=some (cm k (gt (l.R ρ) (e.I ρ) c)):=by
 cases k<;>simp[rowC,C.den,cm,uV,wY]
theorem mY {l e:E}:∀{ks:List CE} {c0 m:Nat} {c:C},(cg l e c0 ks)[m]? =some c→∃k,ks[m]? =some k∧c=rowC l e (c0+m) k
 | [],c0,m,c,h=>by simp[cg] at h
 | k::ks,c0,m,c,h=>by
   cases m with
   | zero=>simp[cg] at h; exact⟨k,rfl,h.symm⟩
   | succ m=>
     obtain⟨k',h1,h2⟩:=mY (ks:=ks) (c0:=c0+1) (m:=m) (by simpa[cg] using h)
     exact⟨k',by simpa using h1,by rw[h2]; congr 1; omega⟩
theorem bj (l e:E):∀(ks:List CE) (c0:Nat),(cg l e c0 ks).length=ks.length
 | [],_=>rfl
 | k::ks,c0=>by simp[cg,bj l e ks]
theorem tF (hT:∀t i,(t,i)∈cx.ty→TIok P t i) {t:Nat} {x:Operand} {kw:Kw} (hop:o.op=.load t x) {id esz off:Nat} {e:E} (hx:vw.ev x=some (.one (.ep id esz e off))) {i:TI} (hi:af t cx.ty=some i) {r:RowOb} (hr:vw.sw id=some r) (hks:r.ks.length=esz) (hoff:off+i.size≤esz)
  (h:(decK (inB e r.l) (fun b kw=>if b then
      (if i.agg then k {val:=.agg (cg r.l e off ((r.ks.drop off).take i.size)),rr:=[id]} kw
      else match r.ks[off]? with
       | some ck=>k {val:=.one (rowC r.l e off ck),rr:=[id]} kw
       | none=>.stuck 53)
      else .stuck 54) kw).holds sp G ρ I) (hg:Good sp cx.sm ρ kw):Sound P sp ρ G I base cx vw o k kw:=by
 obtain⟨kw',h1,g1,_,l1⟩:=ak _ _ _ h hg
 rw[rO] at h1
 have ht:=hT _ _ (ab hi)
 split at h1
 ·rename_i hb
  simp only[Bool.and_eq_true,decide_eq_true_eq] at hb
  have cells:∀{j:J} {w:World} {s:SV} {p:Addr},SlOk ρ base w s r→s.a=some p→∀c ck,r.ks[c]? =some ck→w.cell? (p.add ((e.I ρ).toNat*esz+c))=some (cm ck (gt (r.l.R ρ) (e.I ρ) c)):=by
   intro j w s p hok hp c ck hck
   have:=io hck (i:=(e.I ρ).toNat) hok.rows.row (by omega)
   rw[hks] at this
   exact hok.rd.2.2.2.2 p hp _ _ this
  split at h1
  ·rename_i hagg
   refine⟨_,kw',h1,g1,l1,OpOk.pure fun j a w _ hev _ hrr _=> ?_⟩
   obtain⟨s,hs,hok⟩:=hrr.sl id (by simp) r hr
   obtain⟨p,hp,he⟩:=oZ hs (hev x (by simp[hop,Op.operands]) _ hx)
   have hkl:((r.ks.drop off).take i.size).length=i.size:=by rw[List.length_take,List.length_drop]; omega
   have hus:denL ρ j (cg r.l e off ((r.ks.drop off).take i.size))=some ((List.range i.size).map fun m=>cm ((r.ks[off+m]?).getD none) (gt (r.l.R ρ) (e.I ρ) (off+m))):=by
    refine eZ (by rw[bj,hkl]; simp) (fun m c hm=> ?_)
    obtain⟨ck,hck,rfl⟩:=mY hm
    have hm':m<i.size:=by
     have:=(List.getElem?_eq_some_iff.1 hck).1
     omega
    rw[List.getElem?_take,if_pos hm',List.getElem?_drop] at hck
    refine⟨_,?_,lw ρ j _ _ _ _⟩
    simp[hm',hck]
   refine⟨_,by simp only[V.den,hus]; rfl,?_⟩
   have h4:=bz (P:=P) (a:=p.add ((e.I ρ).toNat*esz+off)) (w:=w) ((List.range i.size).map fun m=>cm ((r.ks[off+m]?).getD none) (gt (r.l.R ρ) (e.I ρ) (off+m))) 0 #[] (fun m u hu=>by
    rw[Nat.zero_add,aS,Nat.add_assoc]
    have hm':m<i.size:=by
     have:=(List.getElem?_eq_some_iff.1 hu).1
     simpa using this
    obtain⟨ck,hck⟩:∃ck,r.ks[off+m]? =some ck:=⟨_,List.getElem?_eq_getElem (by omega)⟩
    have:=cells (j:=j) hok hp (off+m) ck hck
    simp[hm',hck] at hu
    rw[this,hu])
   simp only[List.length_map,List.length_range] at h4
   simp[execOp,hop,he,Instr.loadAt,Instr.sureAddr,Sem.run_bind,loadVar,ht.agg,hagg,ht.size,loadCells,h4]
  ·rename_i hagg
   split at h1
   ·rename_i ck hck
    refine⟨_,kw',h1,g1,l1,OpOk.pure fun j a w _ hev _ hrr _=> ?_⟩
    obtain⟨s,hs,hok⟩:=hrr.sl id (by simp) r hr
    obtain⟨p,hp,he⟩:=oZ hs (hev x (by simp[hop,Op.operands]) _ hx)
    have h4:=cells (j:=j) hok hp off ck hck
    have hagg':i.agg=false:=by simpa using hagg
    exact⟨_,lw ρ j _ _ _ _,by simp[execOp,hop,he,Instr.loadAt,Instr.sureAddr,Sem.run_bind,loadVar,ht.agg,hagg',load,Sem.run,h4]⟩
   ·exact h1.elim
 ·exact h1.elim
theorem wN {w:World} {base ty esz:Nat} {s:SV} {xs:List Value} (h:w.ownsRow base ty esz s.v s.n xs) {p:Addr} (hp:s.a=some p):∃g,p=⟨g,0,none⟩∧s.v=.slice (some ⟨g,0,none⟩) s.n s.c:=by
 rcases h.2 with⟨hv,_⟩ | ⟨g,cap,cur,hv,_⟩
 ·simp only[SV.v,hp] at hv; cases hv
 ·simp only[SV.v,hp,Value.slice.injEq,Option.some.injEq] at hv
  exact⟨g,hv.1,by simp only[SV.v,hp,hv.1]⟩
theorem yD {ks:List CE} {L:List (List Int)} {c:Nat} {k:CE} (hk:ks[c]? =some k) {x:Int} (hx:inCE k x=true) (h:RowsIn ks L) (i:Int):RowsIn ks (st L i c x):=by
 refine⟨fun r hr=> ?_,by rw[dz]; exact h.len⟩
 rcases nz hr with hr | ⟨r0,hr0,rfl⟩
 ·exact h.row r hr
 ·exact iT (h.row r0 hr0) hk hx
theorem gM {ty g n cap:Nat} {e:E} {j:J} {vk:List VK} (hv:Vk ρ vk):∀(ks0:List CE) (cs:List C) (l l':E) (off i0:Nat) (vs:List Value) (w:World) (p:Addr),
  ew vk l e off ks0 cs=some l'→denL ρ j cs=some vs→∀ks:List CE,(∀m:Nat,ks0[m]? =ks[off+m]?)→RowsIn ks (l.R ρ)→(e.I ρ).toNat<(l.R ρ).length→w.ownsRow base ty ks.length (.slice (some ⟨g,0,none⟩) n cap) n (flat ks (l.R ρ))→(∀m,p.add (i0+m)=⟨g,(e.I ρ).toNat*ks.length+(off+m),none⟩)→
  ∃w',(storeCells p vs i0).run P w=.ok () w'∧w'.ownsRow base ty ks.length (.slice (some ⟨g,0,none⟩) n cap) n (flat ks (l'.R ρ))∧w.grownBy w' (some g)∧RowsIn ks (l'.R ρ)∧(l'.R ρ).length=(l.R ρ).length
 | ks0,[],l,l',off,i0,vs,w,p,hput,hd,ks,hsub,hrows,hi,hown,hp=>by
   have e1:l'=l:=by
    unfold ew at hput
    cases ks0 with
    | nil=>exact(Option.some.inj hput).symm
    | cons k ks0=>cases k<;>exact(Option.some.inj hput).symm
   subst e1
   cases hd
   exact⟨w,by simp[storeCells],hown,⟨rfl,rfl,rfl,Nat.le_refl _,fun _ _ _=>rfl⟩,hrows,rfl⟩
 | [],c::cs,l,l',off,i0,vs,w,p,hput,hd,ks,hsub,hrows,hi,hown,hp=>by simp[ew] at hput
 | k::ks0,c::cs,l,l',off,i0,vs,w,p,hput,hd,ks,hsub,hrows,hi,hown,hp=>by
   simp only[denL] at hd
   cases hc:c.den ρ j with
   | none=>rw[hc] at hd; cases hd
   | some v=>
     cases hl:denL ρ j cs with
     | none=>rw[hc,hl] at hd; cases hd
     | some us=>
       rw[hc,hl] at hd; cases hd
       have hk:ks[off]? =some k:=by have:=hsub 0; simpa using this.symm
       have hn:(flat ks (l.R ρ)).length=(l.R ρ).length*ks.length:=aH hrows.row
       have hcl:off<ks.length:=(List.getElem?_eq_some_iff.1 hk).1
       have step:∀(x:Int) (l1:E),v=cm k x→inCE k x=true→l1.R ρ=st (l.R ρ) (e.I ρ) off x→ew vk l1 e (off+1) ks0 cs=some l'→
        ∃w',(storeCells p (v::us) i0).run P w=.ok () w'∧w'.ownsRow base ty ks.length (.slice (some ⟨g,0,none⟩) n cap) n (flat ks (l'.R ρ))∧w.grownBy w' (some g)∧RowsIn ks (l'.R ρ)∧(l'.R ρ).length=(l.R ρ).length:=by
        intro x l1 hvx hx hl1 hput'
        have hfs:(flat ks (l.R ρ)).set ((e.I ρ).toNat*ks.length+off) (cm k x)=flat ks (l1.R ρ):=by rw[hl1]; exact qD hk x hrows.row hi
        have hlt:(e.I ρ).toNat*ks.length+off<n*ks.length:=by
         have h1:=hown.1
         rw[hn] at h1
         have h2:((e.I ρ).toNat+1)*ks.length≤(l.R ρ).length*ks.length:=Nat.mul_le_mul_right _ hi
         rw[Nat.succ_mul] at h2
         omega
        have hcell:∃u,w.cell? ⟨g,(e.I ρ).toNat*ks.length+off,none⟩=some u:=by
         have h1:=hown.cellAt _ hlt
         have h2:(e.I ρ).toNat*ks.length+off<(flat ks (l.R ρ)).length:=by rw[hown.1]; exact hlt
         exact⟨_,by rw[h1,List.getElem?_eq_getElem h2]⟩
        obtain⟨u,hu⟩:=hcell
        have hfr:=hown.frozenAt ((e.I ρ).toNat*ks.length+off)
        obtain⟨h3,h4⟩:=hown.stored ((e.I ρ).toNat*ks.length+off) v
        rw[hvx,hfs] at h3
        have hp0:=hp 0
        simp only[Nat.add_zero] at hp0
        have hone:v.oneCell'=true:=by rw[hvx]; cases k<;>rfl
        obtain⟨w',h5,h6,h7,h8,h9⟩:=gM hv ks0 cs l1 l' (off+1) (i0+1) us (w.setCell ⟨g,(e.I ρ).toNat*ks.length+off,none⟩ v) p hput' hl ks (fun m=>by have:=hsub (m+1); simpa[Nat.add_assoc,Nat.add_comm 1 m] using this)
         (by rw[hl1]; exact yD hk hx hrows _) (by rw[hl1,dz]; exact hi) (by rw[hvx]; exact h3) (fun m=>by rw[Nat.add_assoc,Nat.add_comm 1 m,hp (m+1)]; congr 1; omega)
        refine⟨w',?_,h6,h4.trans h7,h8,by rw[h9,hl1,dz]⟩
        simp only[storeCells,hp0,Sem.run_bind,run_store P w _ v _ hone,hu,hfr,Result.andThen_ok,Bool.false_eq_true,if_false]
        exact h5
       cases k with
       | none=>
         cases c<;>simp only[ew] at hput<;>first | cases hput | skip
         rename_i x
         have hvx:v=.bool (x.B ρ):=(Option.some.inj hc).symm
         exact step (b2i (x.B ρ)) _ (by rw[hvx]; simp only[cm]; cases x.B ρ<;>rfl) (vW _) rfl hput
       | some kd=>
         cases c<;>simp only[ew] at hput<;>first | cases hput | skip
         rename_i k' x
         split at hput
         ·rename_i hkk
          simp only[Bool.and_eq_true] at hkk
          have hvx:v=.int k' (x.I ρ):=(Option.some.inj hc).symm
          exact step (x.I ρ) _ (by rw[hvx,ao hkk.1]; rfl) (E.rng_ok hv x hkk.2) rfl hput
         ·cases hput
theorem qX (hT:∀t i,(t,i)∈cx.ty→TIok P t i) {t:Nat} {x y:Operand} {kw:Kw} (hop:o.op=.store t x y) {id esz off:Nat} {e:E} (hx:vw.ev x=some (.one (.ep id esz e off))) {v:V} (hy:vw.ev y=some v) {i:TI} (hi:af t cx.ty=some i)
  {r:RowOb} (hr:vw.sw id=some r) (hrown:r.own=true) (hks:r.ks.length=esz) (hf:v.flat=true) (hn:v.cells.length=i.size) (hoff:off+i.size≤esz)
  (h:(decK (inB e r.l) (fun b kw=>if b then
      (match ew kw.vk r.l e off (r.ks.drop off) v.cells with
       | some l=>k {val:=.one .undef,rr:=[id],re:=.set id {r with l:=l}} kw
       | none=>.stuck 57)
      else .stuck 58) kw).holds sp G ρ I) (hg:Good sp cx.sm ρ kw):Sound P sp ρ G I base cx vw o k kw:=by
 obtain⟨kw',h1,g1,_,l1⟩:=ak _ _ _ h hg
 rw[rO] at h1
 have ht:=hT _ _ (ab hi)
 split at h1
 ·rename_i hb
  simp only[Bool.and_eq_true,decide_eq_true_eq] at hb
  split at h1
  ·rename_i l hl
   refine⟨_,kw',h1,g1,l1,fun j a w _ hev hrd hwr hrr hfb K Q hK=> ?_⟩
   obtain⟨s,hs,hok⟩:=hrr.sl id (by simp) r hr
   obtain⟨p,hp,he⟩:=oZ hs (hev x (by simp[hop,Op.operands]) _ hx)
   have hd:=V.cells_ok (hev y (by simp[hop,Op.operands]) v hy) hf
   have hown:=hok.own hrown
   obtain⟨g,rfl,hsv⟩:=wN hown hp
   rw[hsv] at hown
   obtain⟨w',h2,h3,h4,h5,h6⟩:=gM (P:=P) g1.vk (r.ks.drop off) v.cells r.l l off 0 _ w ((⟨g,0,none⟩:Addr).add ((e.I ρ).toNat*esz+off)) hl hd r.ks (fun m=>by rw[List.getElem?_drop]) hok.rows (by omega) hown
    (fun m=>by rw[aS,be,hks]; congr 1; omega)
   have hsz:(a.eval y).cells.size=i.size:=by
    have:=au hd
    rw[Array.length_toList,hn] at this
    exact this
   refine pm (w':=w') ?_ (hK _ j w' rfl ⟨rfl,s,hs,?_,RowOk.mk_own (r:={r with l:=l}) (Vw.sw_some hr).2 (by rw[hok.n]; exact h6.symm) h5 hok.pos (by rw[hsv]; exact h3)⟩)
   ·simp[execOp,hop,he,Instr.storeAt,Instr.sureAddr,Sem.run_bind,storeVar,ht.size,hsz,h2]
   ·rw[hsv]; exact h4
  ·exact h1.elim
 ·exact h1.elim
end
end Go.Proofs.Ytghiofgomcihcaa
