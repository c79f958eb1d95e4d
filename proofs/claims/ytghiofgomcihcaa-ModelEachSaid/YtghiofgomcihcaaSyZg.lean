import Derived.Test.YtghiofgomcihcaaSyF
set_option linter.unusedVariables false
set_option linter.unusedSimpArgs false
namespace Go.Proofs.Ytghiofgomcihcaa
open Go.RowKit
section
variable {P:Program} {sp:Spec} {ρ:Env} {G:Env→E→Prop} {I:Nat→List Dt→Prop} {base:Nat} {cx:Cx} {vw:Vw} {o:Oper} {k:Eff→Kw→Tr}
theorem mi {e:E} {n:Nat} {kk:Nat→Kw→Tr}:∀(m:Nat) (kw:Kw),m≤n→(mj e n kk m kw).holds sp G ρ I→Good sp cx.sm ρ kw→∃i kw',i<n∧e.I ρ=(i:Int)∧(kk i kw').holds sp G ρ I∧Good sp cx.sm ρ kw'∧KwGe kw' kw
 | 0,kw,_,h,hg=>h.elim
 | m+1,kw,hm,h,hg=>by
   simp only[mj] at h
   obtain⟨kw1,h1,g1,_,l1⟩:=ak _ _ _ h hg
   rw[kV] at h1
   split at h1
   ·rename_i hb
    have hb':e.I ρ=((n-(m+1):Nat):Int):=by simpa[E.I] using hb
    exact⟨n-(m+1),kw1,by omega,hb',h1,g1,l1⟩
   ·obtain⟨i,kw2,h2,h3,h4,g2,l2⟩:=mi m kw1 (by omega) h1 g1
    exact⟨i,kw2,h2,h3,h4,g2,l2.trans l1⟩
theorem de (hT:∀t i,(t,i)∈cx.ty→TIok P t i) {t:Nat} {x y:Operand} {kw:Kw} (hop:o.op=.indexAddr t x y) {c:C} {c':Nat→C} (hx:vw.ev x=some (.one c)) {k0:IntKind} {e:E} (hy:vw.ev y=some (.one (.int k0 e))) {i:TI} (hi:af t cx.ty=some i)
  {n et:Nat} (ha:i.arr=some (n,et)) {ie:TI} (hie:af et cx.ty=some ie) (hmv:∀m j v,c.den ρ j=some v→∃a,v=.pointer (some a)∧(c' m).den ρ j=some (.pointer (some (a.add (m*ie.size)))))
  (h:(mj e n (fun m kw=>k {val:=.one (c' m)} kw) n kw).holds sp G ρ I) (hg:Good sp cx.sm ρ kw):Sound P sp ρ G I base cx vw o k kw:=by
 obtain⟨m,kw',hm,he,h1,g1,l1⟩:=mi n kw (Nat.le_refl _) h hg
 have hu:=(hT _ _ (ab hi)).arr n et ha
 have hs:=(hT _ _ (ab hie)).size
 refine⟨_,kw',h1,g1,l1,OpOk.pure fun j a w _ hev _ _ _=> ?_⟩
 obtain⟨p,hp,hd⟩:=hmv m j _ (hev x (by simp[hop,Op.operands]) _ hx)
 have hq:=aQ (hev y (by simp[hop,Op.operands]) _ hy)
 refine⟨_,hd,?_⟩
 have hlt:(0:Int)≤(m:Int)∧(m:Int)<(n:Int):=by omega
 simp[execOp,hop,hp,hq,he,Instr.indexAt,run_underlying hu,Instr.sureAddr,asIntOf,hlt,hs,Sem.run_bind]
 omega
theorem uI (hT:∀t i,(t,i)∈cx.ty→TIok P t i) {t:Nat} {x y:Operand} {kw:Kw} (hop:o.op=.index t x y) {cs:List C} (hx:vw.ev x=some (.agg cs)) {k0:IntKind} {e:E} (hy:vw.ev y=some (.one (.int k0 e))) {i:TI} (hi:af t cx.ty=some i)
  {n et:Nat} (ha:i.arr=some (n,et)) {ie:TI} (hie:af et cx.ty=some ie) (h:(mj e n (fun m kw=>match sV cx et cs (m*ie.size) with | some v=>k {val:=v} kw | none=>.stuck 30) n kw).holds sp G ρ I) (hg:Good sp cx.sm ρ kw):Sound P sp ρ G I base cx vw o k kw:=by
 obtain⟨m,kw',hm,he,h1,g1,l1⟩:=mi n kw (Nat.le_refl _) h hg
 have hu:=(hT _ _ (ab hi)).arr n et ha
 have hs:=(hT _ _ (ab hie)).size
 split at h1
 ·rename_i v hv
  refine⟨_,kw',h1,g1,l1,OpOk.pure fun j a w _ hev _ _ _=> ?_⟩
  have hd:=hev x (by simp[hop,Op.operands]) _ hx
  simp only[V.den,Option.map_eq_some_iff] at hd
  obtain⟨vs,hvs,hp⟩:=hd
  have hq:=aQ (hev y (by simp[hop,Op.operands]) _ hy)
  obtain⟨u,hu',hr⟩:=wk hT hv hvs w
  refine⟨u,hu',?_⟩
  have hlt:(0:Int)≤(m:Int)∧(m:Int)<(n:Int):=by omega
  simp[execOp,hop,←hp,hq,he,Instr.index,run_underlying hu,asIntOf,hlt,hs,Sem.run_bind,hr]
  omega
 ·exact h1.elim
theorem th (ρ:Env) (e l:E):(inB e l).B ρ=(decide (0≤e.I ρ)&&decide (e.I ρ<((l.R ρ).length:Int))):=by
 simp only[inB,bN,bl,aG,aU,E.I]
 rw[jY]
 rfl
theorem nu (hT:∀t i,(t,i)∈cx.ty→TIok P t i) {t:Nat} {x y:Operand} {kw:Kw} (hop:o.op=.indexAddr t x y) {id:Nat} (hx:vw.ev x=some (.one (.sl id))) {k0:IntKind} {e:E} (hy:vw.ev y=some (.one (.int k0 e))) {i:TI} (hi:af t cx.ty=some i)
  {et:Nat} (ha:i.sle=some et) {ie:TI} (hie:af et cx.ty=some ie) {r:RowOb} (hr:vw.sw id=some r) (hks:r.ks.length=ie.size)
  (h:(decK (inB e r.l) (fun b kw=>if b then k {val:=.one (.ep id ie.size e 0),rr:=[id]} kw else .panic) kw).holds sp G ρ I) (hg:Good sp cx.sm ρ kw):Sound P sp ρ G I base cx vw o k kw:=by
 obtain⟨kw',h1,g1,_,l1⟩:=ak _ _ _ h hg
 rw[th] at h1
 split at h1
 ·rename_i hb
  simp only[Bool.and_eq_true,decide_eq_true_eq] at hb
  refine⟨_,kw',h1,g1,l1,OpOk.pure fun j a w _ hev _ hrr _=> ?_⟩
  obtain⟨s,hs,hok⟩:=hrr.sl id (by simp) r hr
  have hd:=hev x (by simp[hop,Op.operands]) _ hx
  simp only[V.den,C.den,hs,Option.map_some,Option.some.injEq] at hd
  have hq:=aQ (hev y (by simp[hop,Op.operands]) _ hy)
  have hu:=(hT _ _ (ab hi)).sle et ha
  have hsz:=(hT _ _ (ab hie)).size
  obtain⟨sa,sn,sc,sz⟩:=s
  have hn:=hok.n
  simp only at hn
  have hrd:=hok.rd
  cases sa with
  | none=>have:=(hrd.2.2.2.1 rfl).1; simp only at this; omega
  | some p=>
    refine⟨.pointer (some (p.add ((e.I ρ).toNat*ie.size+0))),by simp[V.den,C.den,hs,SV.elem],?_⟩
    have hlt:(0:Int)≤e.I ρ∧e.I ρ<(sn:Int):=by omega
    simp[execOp,hop,←hd,SV.v,hq,Instr.indexAt,run_underlying hu,asIntOf,hlt,hsz,Sem.run_bind]
 ·exact h1.elim
theorem bC {a:Addr} {w:World}:∀(vs:List Value) (i:Nat) (acc:Array Value),(∀m u,vs[m]? =some u→w.cell? (a.add (i+m))=some u)→(loadCellsFrom a i vs.length acc).run P w=.ok (acc++vs.toArray) w
 | [],i,acc,_=>by simp[loadCellsFrom]
 | v::vs,i,acc,h=>by
   have h0:=h 0 v rfl
   simp only[Nat.add_zero] at h0
   simp only[List.length_cons,loadCellsFrom,Sem.run_bind,load,Sem.run,h0,Result.andThen_ok]
   rw[bC vs (i+1) _ (fun m u hu=>by rw[Nat.add_assoc,Nat.add_comm 1 m]; exact h (m+1) u (by simpa using hu))]
   simp
theorem fx {j:J}:∀{cs:List C} {vs:List Value},cs.length=vs.length→(∀(m:Nat) c,cs[m]? =some c→∃u,vs[m]? =some u∧c.den ρ j=some u)→denL ρ j cs=some vs
 | [],vs,hl,_=>by
   cases vs with
   | nil=>rfl
   | cons=>cases hl
 | c::cs,vs,hl,h=>by
   cases vs with
   | nil=>cases hl
   | cons v vs=>
     obtain⟨u,hu,hd⟩:=h 0 c rfl
     simp only[List.getElem?_cons_zero,Option.some.injEq] at hu
     subst hu
     have:=fx (cs:=cs) (vs:=vs) (by simpa using hl) (fun m c hm=>by simpa using h (m+1) c (by simpa using hm))
     simp[denL,hd,this]
theorem dW {ld:Nat→Nat→Option C} {b:Nat}:∀(n o:Nat) (cs:List C),dX ld b o n=some cs→cs.length=n∧∀m c,cs[m]? =some c→ld b (o+m)=some c
 | 0,o,cs,h=>by cases h; exact⟨rfl,fun m c hm=>by simp at hm⟩
 | n+1,o,cs,h=>by
   simp only[dX] at h
   cases hc:ld b o with
   | none=>rw[hc] at h; cases h
   | some c=>
     cases hl:dX ld b (o+1) n with
     | none=>rw[hc,hl] at h; cases h
     | some l=>
       rw[hc,hl] at h; cases h
       obtain⟨h1,h2⟩:=dW n (o+1) l hl
       refine⟨by simp[h1],fun m c' hm=> ?_⟩
       cases m with
       | zero=>simp at hm; subst hm; exact hc
       | succ m=>rw[show o+(m+1)=o+1+m by omega]; exact h2 m c' (by simpa using hm)
theorem wW {j:J} {b off:Nat} {v:Value} (h:(V.one (.fp b off)).den ρ j=some v):∃kk,j.f b=some kk∧v=.pointer (some ⟨kk,off,none⟩):=by
 simp only[V.den,C.den,Option.map_eq_some_iff] at h
 obtain⟨kk,hk,rfl⟩:=h
 exact⟨kk,hk,rfl⟩
theorem lL (hT:∀t i,(t,i)∈cx.ty→TIok P t i) {t:Nat} {x:Operand} {kw:Kw} (hop:o.op=.load t x) {b off:Nat} (hx:vw.ev x=some (.one (.fp b off))) {i:TI} (hi:af t cx.ty=some i) (hagg:i.agg=true) {cs:List C} (hcs:dX (fun b o=>(vw.fb b).bind (·[o]?)) b off i.size=some cs) (hsol:cs.all C.solid=true)
  (h:(k {val:=.agg cs} kw).holds sp G ρ I) (hg:Good sp cx.sm ρ kw):Sound P sp ρ G I base cx vw o k kw:=by
 refine⟨_,kw,h,hg,.refl _,OpOk.pure fun j a w _ hev _ _ hfb=> ?_⟩
 have ht:=hT _ _ (ab hi)
 obtain⟨kk,hk,he⟩:=wW (hev x (by simp[hop,Op.operands]) _ hx)
 obtain⟨hlen,hget⟩:=dW _ _ _ hcs
 by_cases h0:i.size=0
 ·have hnil:cs=[]:=List.eq_nil_of_length_eq_zero (by omega)
  subst hnil
  refine⟨.agg #[],rfl,?_⟩
  simp[execOp,hop,he,Instr.loadAt,Instr.sureAddr,Sem.run_bind,loadVar,ht.agg,hagg,ht.size,loadCells,h0,loadCellsFrom]
 have hcont:∃c0,vw.fb b=some c0:=by
  cases hb:vw.fb b with
  | some c0=>exact⟨c0,rfl⟩
  | none=>
    exfalso
    have h1:0<cs.length:=by omega
    have:=hget 0 cs[0] (List.getElem?_eq_getElem h1)
    simp[hb] at this
 obtain⟨c0,hc0⟩:=hcont
 obtain⟨kk',vs,h1,_,h2,h3⟩:=hfb b c0 hc0
 rw[hk] at h1; cases h1
 have hv:∀m c,cs[m]? =some c→∃u,vs[off+m]? =some u∧c.den ρ j=some u:=fun m c hm=>by
  have:=hget m c hm
  simp only[hc0,Option.bind_some] at this
  exact bz h2 (off+m) c this
 have hus:denL ρ j cs=some ((vs.drop off).take i.size):=by
  refine fx ?_ (fun m c hm=> ?_)
  ·rw[List.length_take,List.length_drop,hlen]
   obtain⟨u,hu,_⟩:=hv (cs.length-1) cs[cs.length-1] (List.getElem?_eq_getElem (by omega))
   have:=(List.getElem?_eq_some_iff.1 hu).1
   omega
  ·obtain⟨u,hu,hd⟩:=hv m c hm
   refine⟨u,?_,hd⟩
   have hlt:=(List.getElem?_eq_some_iff.1 hm).1
   rw[List.getElem?_take,if_pos (by omega),List.getElem?_drop]
   exact hu
 have hl:=aA hus
 refine⟨_,by simp only[V.den,hus]; rfl,?_⟩
 have h4:=bC (P:=P) (a:=⟨kk,off,none⟩) (w:=w) ((vs.drop off).take i.size) 0 #[] (fun m u hu=>by
  rw[bi,Nat.zero_add]
  have hlt:m<i.size:=by
   have:=(List.getElem?_eq_some_iff.1 hu).1
   rw[List.length_take] at this; omega
  rw[List.getElem?_take,if_pos hlt,List.getElem?_drop] at hu
  refine h3 _ u hu ?_
  have hc:=List.getElem?_eq_getElem (show m<cs.length by omega)
  have hg:=hget m _ hc
  simp only[hc0,Option.bind_some] at hg
  unfold dK
  rw[List.getD_eq_getElem?_getD,hg]
  exact List.all_eq_true.1 hsol _ (List.getElem_mem _))
 rw[hl,hlen] at h4
 simp[execOp,hop,he,Instr.loadAt,Instr.sureAddr,Sem.run_bind,loadVar,ht.agg,hagg,ht.size,loadCells,h4]
theorem lM (hT:∀t i,(t,i)∈cx.ty→TIok P t i) {t:Nat} {x:Operand} {kw:Kw} (hop:o.op=.load t x) {b off:Nat} (hx:vw.ev x=some (.one (.fp b off))) {i:TI} (hi:af t cx.ty=some i) (hagg:¬i.agg=true) {c:C} (hc:(vw.fb b).bind (·[off]?)=some c) (hsol:c.solid=true)
  (h:(k {val:=.one c} kw).holds sp G ρ I) (hg:Good sp cx.sm ρ kw):Sound P sp ρ G I base cx vw o k kw:=by
 refine⟨_,kw,h,hg,.refl _,OpOk.pure fun j a w _ hev _ _ hfb=> ?_⟩
 have ht:=hT _ _ (ab hi)
 obtain⟨kk,hk,he⟩:=wW (hev x (by simp[hop,Op.operands]) _ hx)
 rw[Option.bind_eq_some_iff] at hc
 obtain⟨c0,hc0,hc⟩:=hc
 obtain⟨kk',vs,h1,_,h2,h3⟩:=hfb b c0 hc0
 rw[hk] at h1; cases h1
 obtain⟨u,hu,hd⟩:=bz h2 off c hc
 have hagg':i.agg=false:=by simpa using hagg
 have h4:=h3 off u hu (by unfold dK; rw[List.getD_eq_getElem?_getD,hc]; exact hsol)
 exact⟨u,hd,by simp[execOp,hop,he,Instr.loadAt,Instr.sureAddr,Sem.run_bind,loadVar,ht.agg,hagg',load,Sem.run,h4]⟩
theorem pS {j:J} {id esz off:Nat} {e:E} {v:Value} {s:SV} (hs:j.s id=some s) (h:(V.one (.ep id esz e off)).den ρ j=some v):∃a,s.a=some a∧v=.pointer (some (a.add ((e.I ρ).toNat*esz+off))):=by
 simp only[V.den,C.den,hs,Option.bind_some,SV.elem,Option.map_eq_some_iff] at h
 obtain⟨a,ha,rfl⟩:=h
 exact⟨a,ha,rfl⟩
theorem qV (ρ:Env) (j:J) (l e:E) (c:Nat) (k:CE):(rowC l e c k).den ρ j=some (fA k (gt (l.R ρ) (e.I ρ) c)):=by
 cases k<;>simp[rowC,C.den,fA,wC,yK]
theorem oa {l e:E}:∀{ks:List CE} {c0 m:Nat} {c:C},(kC l e c0 ks)[m]? =some c→∃k,ks[m]? =some k∧c=rowC l e (c0+m) k
 | [],c0,m,c,h=>by simp[kC] at h
 | k::ks,c0,m,c,h=>by
   cases m with
   | zero=>simp[kC] at h; exact⟨k,rfl,h.symm⟩
   | succ m=>
     obtain⟨k',h1,h2⟩:=oa (ks:=ks) (c0:=c0+1) (m:=m) (by simpa[kC] using h)
     exact⟨k',by simpa using h1,by rw[h2]; congr 1; omega⟩
theorem iu (l e:E):∀(ks:List CE) (c0:Nat),(kC l e c0 ks).length=ks.length
 | [],_=>rfl
 | k::ks,c0=>by simp[kC,iu l e ks]
theorem uG (hT:∀t i,(t,i)∈cx.ty→TIok P t i) {t:Nat} {x:Operand} {kw:Kw} (hop:o.op=.load t x) {id esz off:Nat} {e:E} (hx:vw.ev x=some (.one (.ep id esz e off))) {i:TI} (hi:af t cx.ty=some i) {r:RowOb} (hr:vw.sw id=some r) (hks:r.ks.length=esz) (hoff:off+i.size≤esz)
  (h:(decK (inB e r.l) (fun b kw=>if b then
      (if i.agg then k {val:=.agg (kC r.l e off ((r.ks.drop off).take i.size)),rr:=[id]} kw
      else match r.ks[off]? with
       | some ck=>k {val:=.one (rowC r.l e off ck),rr:=[id]} kw
       | none=>.stuck 53)
      else .stuck 54) kw).holds sp G ρ I) (hg:Good sp cx.sm ρ kw):Sound P sp ρ G I base cx vw o k kw:=by
 obtain⟨kw',h1,g1,_,l1⟩:=ak _ _ _ h hg
 rw[th] at h1
 have ht:=hT _ _ (ab hi)
 split at h1
 ·rename_i hb
  simp only[Bool.and_eq_true,decide_eq_true_eq] at hb
  have cells:∀{j:J} {w:World} {s:SV} {p:Addr},SlOk ρ base w s r→s.a=some p→∀c ck,r.ks[c]? =some ck→w.cell? (p.add ((e.I ρ).toNat*esz+c))=some (fA ck (gt (r.l.R ρ) (e.I ρ) c)):=by
   intro j w s p hok hp c ck hck
   have:=iZ hck (i:=(e.I ρ).toNat) hok.rows.row (by omega)
   rw[hks] at this
   exact hok.rd.2.2.2.2 p hp _ _ this
  split at h1
  ·rename_i hagg
   refine⟨_,kw',h1,g1,l1,OpOk.pure fun j a w _ hev _ hrr _=> ?_⟩
   obtain⟨s,hs,hok⟩:=hrr.sl id (by simp) r hr
   obtain⟨p,hp,he⟩:=pS hs (hev x (by simp[hop,Op.operands]) _ hx)
   have hkl:((r.ks.drop off).take i.size).length=i.size:=by rw[List.length_take,List.length_drop]; omega
   have hus:denL ρ j (kC r.l e off ((r.ks.drop off).take i.size))=some ((List.range i.size).map fun m=>fA ((r.ks[off+m]?).getD none) (gt (r.l.R ρ) (e.I ρ) (off+m))):=by
    refine fx (by rw[iu,hkl]; simp) (fun m c hm=> ?_)
    obtain⟨ck,hck,rfl⟩:=oa hm
    have hm':m<i.size:=by
     have:=(List.getElem?_eq_some_iff.1 hck).1
     omega
    rw[List.getElem?_take,if_pos hm',List.getElem?_drop] at hck
    refine⟨_,?_,qV ρ j _ _ _ _⟩
    simp[hm',hck]
   refine⟨_,by simp only[V.den,hus]; rfl,?_⟩
   have h4:=bC (P:=P) (a:=p.add ((e.I ρ).toNat*esz+off)) (w:=w) ((List.range i.size).map fun m=>fA ((r.ks[off+m]?).getD none) (gt (r.l.R ρ) (e.I ρ) (off+m))) 0 #[] (fun m u hu=>by
    rw[Nat.zero_add,aX,Nat.add_assoc]
    have hm':m<i.size:=by
     have:=(List.getElem?_eq_some_iff.1 hu).1
     simpa using this
    obtain⟨ck,hck⟩:∃ck,r.ks[off+m]? =some ck:=⟨_,List.getElem?_eq_getElem (by omega)⟩
    have:=cells (j:=j) hok hp (off+m) ck hck
    simp[hm',hck] at hu
    rw[this,hu])
   simp only[List.length_map,List.length_range] at h4
   simp[execOp,hop,he,Instr.loadAt,Instr.sureAddr,Sem.run_bind,loadVar,ht.agg,hagg,ht.size,loadCells,h4]
  ·rename_i hagg
   split at h1
   ·rename_i ck hck
    refine⟨_,kw',h1,g1,l1,OpOk.pure fun j a w _ hev _ hrr _=> ?_⟩
    obtain⟨s,hs,hok⟩:=hrr.sl id (by simp) r hr
    obtain⟨p,hp,he⟩:=pS hs (hev x (by simp[hop,Op.operands]) _ hx)
    have h4:=cells (j:=j) hok hp off ck hck
    have hagg':i.agg=false:=by simpa using hagg
    exact⟨_,qV ρ j _ _ _ _,by simp[execOp,hop,he,Instr.loadAt,Instr.sureAddr,Sem.run_bind,loadVar,ht.agg,hagg',load,Sem.run,h4]⟩
   ·exact h1.elim
 ·exact h1.elim
theorem yA {w:World} {base ty esz:Nat} {s:SV} {xs:List Value} (h:w.ownsRow base ty esz s.v s.n xs) {p:Addr} (hp:s.a=some p):∃g,p=⟨g,0,none⟩∧s.v=.slice (some ⟨g,0,none⟩) s.n s.c:=by
 rcases h.2 with⟨hv,_⟩ | ⟨g,cap,cur,hv,_⟩
 ·simp only[SV.v,hp] at hv; cases hv
 ·simp only[SV.v,hp,Value.slice.injEq,Option.some.injEq] at hv
  exact⟨g,hv.1,by simp only[SV.v,hp,hv.1]⟩
theorem aai {ks:List CE} {L:List (List Int)} {c:Nat} {k:CE} (hk:ks[c]? =some k) {x:Int} (hx:inCE k x=true) (h:RowsIn ks L) (i:Int):RowsIn ks (st L i c x):=by
 refine⟨fun r hr=> ?_,by rw[dJ]; exact h.len⟩
 rcases oC hr with hr | ⟨r0,hr0,rfl⟩
 ·exact h.row r hr
 ·exact jM (h.row r0 hr0) hk hx
theorem iq {ty g n cap:Nat} {e:E} {j:J} {vk:List VK} (hv:Vk ρ vk):∀(ks0:List CE) (cs:List C) (l l':E) (off i0:Nat) (vs:List Value) (w:World) (p:Addr),
  eQ vk l e off ks0 cs=some l'→denL ρ j cs=some vs→∀ks:List CE,(∀m:Nat,ks0[m]? =ks[off+m]?)→RowsIn ks (l.R ρ)→(e.I ρ).toNat<(l.R ρ).length→w.ownsRow base ty ks.length (.slice (some ⟨g,0,none⟩) n cap) n (flat ks (l.R ρ))→(∀m,p.add (i0+m)=⟨g,(e.I ρ).toNat*ks.length+(off+m),none⟩)→
  ∃w',(storeCells p vs i0).run P w=.ok () w'∧w'.ownsRow base ty ks.length (.slice (some ⟨g,0,none⟩) n cap) n (flat ks (l'.R ρ))∧w.grownBy w' (some g)∧RowsIn ks (l'.R ρ)∧(l'.R ρ).length=(l.R ρ).length
 | ks0,[],l,l',off,i0,vs,w,p,hput,hd,ks,hsub,hrows,hi,hown,hp=>by
   have e1:l'=l:=by
    unfold eQ at hput
    cases ks0 with
    | nil=>exact(Option.some.inj hput).symm
    | cons k ks0=>cases k<;>exact(Option.some.inj hput).symm
   subst e1
   cases hd
   exact⟨w,by simp[storeCells],hown,⟨rfl,rfl,rfl,Nat.le_refl _,fun _ _ _=>rfl⟩,hrows,rfl⟩
 | [],c::cs,l,l',off,i0,vs,w,p,hput,hd,ks,hsub,hrows,hi,hown,hp=>by simp[eQ] at hput
 | k::ks0,c::cs,l,l',off,i0,vs,w,p,hput,hd,ks,hsub,hrows,hi,hown,hp=>by
   simp only[denL] at hd
   cases hc:c.den ρ j with
   | none=>rw[hc] at hd; cases hd
   | some v=>
     cases hl:denL ρ j cs with
     | none=>rw[hc,hl] at hd; cases hd
     | some us=>
       rw[hc,hl] at hd; cases hd
       have hk:ks[off]? =some k:=by have:=hsub 0; simpa using this.symm
       have hn:(flat ks (l.R ρ)).length=(l.R ρ).length*ks.length:=aL hrows.row
       have hcl:off<ks.length:=(List.getElem?_eq_some_iff.1 hk).1
       have step:∀(x:Int) (l1:E),v=fA k x→inCE k x=true→l1.R ρ=st (l.R ρ) (e.I ρ) off x→eQ vk l1 e (off+1) ks0 cs=some l'→
        ∃w',(storeCells p (v::us) i0).run P w=.ok () w'∧w'.ownsRow base ty ks.length (.slice (some ⟨g,0,none⟩) n cap) n (flat ks (l'.R ρ))∧w.grownBy w' (some g)∧RowsIn ks (l'.R ρ)∧(l'.R ρ).length=(l.R ρ).length:=by
        intro x l1 hvx hx hl1 hput'
        have hfs:(flat ks (l.R ρ)).set ((e.I ρ).toNat*ks.length+off) (fA k x)=flat ks (l1.R ρ):=by rw[hl1]; exact rU hk x hrows.row hi
        have hlt:(e.I ρ).toNat*ks.length+off<n*ks.length:=by
         have h1:=hown.1
         rw[hn] at h1
         have h2:((e.I ρ).toNat+1)*ks.length≤(l.R ρ).length*ks.length:=Nat.mul_le_mul_right _ hi
         rw[Nat.succ_mul] at h2
         omega
        have hcell:∃u,w.cell? ⟨g,(e.I ρ).toNat*ks.length+off,none⟩=some u:=by
         have h1:=hown.cellAt _ hlt
         have h2:(e.I ρ).toNat*ks.length+off<(flat ks (l.R ρ)).length:=by rw[hown.1]; exact hlt
         exact⟨_,by rw[h1,List.getElem?_eq_getElem h2]⟩
        obtain⟨u,hu⟩:=hcell
        have hfr:=hown.frozenAt ((e.I ρ).toNat*ks.length+off)
        obtain⟨h3,h4⟩:=hown.stored ((e.I ρ).toNat*ks.length+off) v
        rw[hvx,hfs] at h3
        have hp0:=hp 0
        simp only[Nat.add_zero] at hp0
        have hone:v.oneCell'=true:=by rw[hvx]; cases k<;>rfl
        obtain⟨w',h5,h6,h7,h8,h9⟩:=iq hv ks0 cs l1 l' (off+1) (i0+1) us (w.setCell ⟨g,(e.I ρ).toNat*ks.length+off,none⟩ v) p hput' hl ks (fun m=>by have:=hsub (m+1); simpa[Nat.add_assoc,Nat.add_comm 1 m] using this)
         (by rw[hl1]; exact aai hk hx hrows _) (by rw[hl1,dJ]; exact hi) (by rw[hvx]; exact h3) (fun m=>by rw[Nat.add_assoc,Nat.add_comm 1 m,hp (m+1)]; congr 1; omega)
        refine⟨w',?_,h6,h4.trans h7,h8,by rw[h9,hl1,dJ]⟩
        simp only[storeCells,hp0,Sem.run_bind,run_store P w _ v _ hone,hu,hfr,Result.andThen_ok,Bool.false_eq_true,if_false]
        exact h5
       cases k with
       | none=>
         cases c<;>simp only[eQ] at hput<;>first | cases hput | skip
         rename_i x
         have hvx:v=.bool (x.B ρ):=(Option.some.inj hc).symm
         exact step (b2i (x.B ρ)) _ (by rw[hvx]; simp only[fA]; cases x.B ρ<;>rfl) (xB _) rfl hput
       | some kd=>
         cases c<;>simp only[eQ] at hput<;>first | cases hput | skip
         rename_i k' x
         split at hput
         ·rename_i hkk
          simp only[Bool.and_eq_true] at hkk
          have hvx:v=.int k' (x.I ρ):=(Option.some.inj hc).symm
          exact step (x.I ρ) _ (by rw[hvx,ao hkk.1]; rfl) (E.rng_ok hv x hkk.2) rfl hput
         ·cases hput
theorem sA (hT:∀t i,(t,i)∈cx.ty→TIok P t i) {t:Nat} {x y:Operand} {kw:Kw} (hop:o.op=.store t x y) {id esz off:Nat} {e:E} (hx:vw.ev x=some (.one (.ep id esz e off))) {v:V} (hy:vw.ev y=some v) {i:TI} (hi:af t cx.ty=some i)
  {r:RowOb} (hr:vw.sw id=some r) (hrown:r.own=true) (hks:r.ks.length=esz) (hf:v.flat=true) (hn:v.cells.length=i.size) (hoff:off+i.size≤esz)
  (h:(decK (inB e r.l) (fun b kw=>if b then
      (match eQ kw.vk r.l e off (r.ks.drop off) v.cells with
       | some l=>k {val:=.one .undef,rr:=[id],re:=.set id {r with l:=l}} kw
       | none=>.stuck 57)
      else .stuck 58) kw).holds sp G ρ I) (hg:Good sp cx.sm ρ kw):Sound P sp ρ G I base cx vw o k kw:=by
 obtain⟨kw',h1,g1,_,l1⟩:=ak _ _ _ h hg
 rw[th] at h1
 have ht:=hT _ _ (ab hi)
 split at h1
 ·rename_i hb
  simp only[Bool.and_eq_true,decide_eq_true_eq] at hb
  split at h1
  ·rename_i l hl
   refine⟨_,kw',h1,g1,l1,fun j a w _ hev hrd hwr hrr hfb K Q hK=> ?_⟩
   obtain⟨s,hs,hok⟩:=hrr.sl id (by simp) r hr
   obtain⟨p,hp,he⟩:=pS hs (hev x (by simp[hop,Op.operands]) _ hx)
   have hd:=V.cells_ok (hev y (by simp[hop,Op.operands]) v hy) hf
   have hown:=hok.own hrown
   obtain⟨g,rfl,hsv⟩:=yA hown hp
   rw[hsv] at hown
   obtain⟨w',h2,h3,h4,h5,h6⟩:=iq (P:=P) g1.vk (r.ks.drop off) v.cells r.l l off 0 _ w ((⟨g,0,none⟩:Addr).add ((e.I ρ).toNat*esz+off)) hl hd r.ks (fun m=>by rw[List.getElem?_drop]) hok.rows (by omega) hown
    (fun m=>by rw[aX,bi,hks]; congr 1; omega)
   have hsz:(a.eval y).cells.size=i.size:=by
    have:=aA hd
    rw[Array.length_toList,hn] at this
    exact this
   refine tN (w':=w') ?_ (hK _ j w' rfl ⟨rfl,s,hs,?_,RowOk.mk_own (r:={r with l:=l}) (Vw.sw_some hr).2 (by rw[hok.n]; exact h6.symm) h5 hok.pos (by rw[hsv]; exact h3)⟩)
   ·simp[execOp,hop,he,Instr.storeAt,Instr.sureAddr,Sem.run_bind,storeVar,ht.size,hsz,h2]
   ·rw[hsv]; exact h4
  ·exact h1.elim
 ·exact h1.elim
end
end Go.Proofs.Ytghiofgomcihcaa
set_option linter.unusedVariables false
set_option linter.unusedSimpArgs false
namespace Go.Proofs.Ytghiofgomcihcaa
open Go.RowKit
section
variable {P:Program} {sp:Spec} {ρ:Env} {G:Env→E→Prop} {I:Nat→List Dt→Prop} {base:Nat} {cx:Cx} {vw:Vw} {o:Oper} {k:Eff→Kw→Tr}
def lP:List Value→Nat→List Value→List Value
 | cs,_,[]=>cs
 | cs,off,v::r=>lP (cs.set off v) (off+1) r
theorem nE {j:J}:∀{vs:List C} {us:List Value} {cs:List C} {ws:List Value} {off:Nat},denL ρ j vs=some us→denL ρ j cs=some ws→denL ρ j (setRow cs off vs)=some (lP ws off us)
 | [],us,cs,ws,off,h,h'=>by cases h; exact h'
 | v::vs,us,cs,ws,off,h,h'=>by
   simp only[denL] at h
   cases hc:v.den ρ j with
   | none=>rw[hc] at h; cases h
   | some u=>
     cases hl:denL ρ j vs with
     | none=>rw[hc,hl] at h; cases h
     | some l=>
       rw[hc,hl] at h; cases h
       exact nE (vs:=vs) (us:=l) hl (mK h' off v u hc)
theorem oH (off:Nat):∀(l:List Value) (m:Nat) (cells:Array Value),((l.zipIdx m).foldl (fun cs (p:Value×Nat)=>cs.setIfInBounds (off+p.2) p.1) cells).toList=lP cells.toList (off+m) l
 | [],m,cells=>rfl
 | v::l,m,cells=>by
   simp only[List.zipIdx_cons,List.foldl_cons]
   rw[oH off l (m+1)]
   simp[lP,Nat.add_assoc]
theorem kl {j:J} {pl:Nat→Option (Nat×Nat)}:∀(parts:List (Nat×V)) (cs cs':List C) (us:List (Nat×Value)) (cells:Array Value),kF pl cs parts=some cs'→denL ρ j cs=some cells.toList→(parts.map (·.1)=us.map (·.1))→
  (∀(i:Nat) p u,parts[i]? =some p→us[i]? =some u→p.2.den ρ j=some u.2)→∃cells',Instr.fill pl cells us=some cells'∧denL ρ j cs'=some cells'.toList
 | [],cs,cs',us,cells,h,hd,hm,hu=>by
   cases us with
   | nil=>cases h; exact⟨cells,rfl,hd⟩
   | cons _ _=>simp at hm
 | (i,v)::parts,cs,cs',us,cells,h,hd,hm,hu=>by
   cases us with
   | nil=>simp at hm
   | cons u us=>
     obtain⟨i',u⟩:=u
     simp only[List.map_cons,List.cons.injEq] at hm
     obtain⟨rfl,hm⟩:=hm
     simp only[kF] at h
     split at h
     ·rename_i off size hp
      split at h
      ·rename_i hc
       simp only[Bool.and_eq_true,decide_eq_true_eq] at hc
       obtain⟨h1,h2,h3⟩:=hc
       have hv:=hu 0 _ _ rfl rfl
       have hcells:=V.cells_ok hv h1
       have hl1:=aA hcells
       have hl2:=aA hd
       rw[Nat.eq_of_beq_eq_true h2] at hl1
       simp only[Array.length_toList] at hl1 hl2
       have hrow:denL ρ j (setRow cs off v.cells)=some ((u.cells.zipIdx.foldl (fun cs (p:Value×Nat)=>cs.setIfInBounds (off+p.2) p.1) cells)).toList:=by
        rw[←Array.foldl_toList,Array.toList_zipIdx,oH]
        exact nE hcells hd
       obtain⟨cells',h5,h6⟩:=kl parts _ cs' us _ h hrow hm (fun i p w hp' hw=>hu (i+1) p w (by simpa using hp') (by simpa using hw))
       refine⟨cells',?_,h6⟩
       unfold Instr.fill
       have hc1:¬(u.cells.size≠size||decide (off+u.cells.size>cells.size))=true:=by simp; omega
       simp only[hp]
       rw[if_neg hc1]
       exact h5
      ·cases h
     ·cases h
theorem rW {ev:Operand→Option V} {j:J} {a:Act}:∀{l:List (Nat×Operand)} {vs:List (Nat×V)},evP ev l=some vs→(∀x∈l.map (·.2),∀v,ev x=some v→v.den ρ j=some (a.eval x))→
  vs.map (·.1)=(l.map fun p=>(p.1,a.eval p.2)).map (·.1)∧∀(i:Nat) p u,vs[i]? =some p→(l.map fun p=>(p.1,a.eval p.2))[i]? =some u→p.2.den ρ j=some u.2
 | [],vs,h,hev=>by cases h; exact⟨rfl,fun i p u hp=>by simp at hp⟩
 | (n,x)::l,vs,h,hev=>by
   simp only[evP] at h
   cases hc:ev x with
   | none=>rw[hc] at h; cases h
   | some v=>
     cases hl:evP ev l with
     | none=>rw[hc,hl] at h; cases h
     | some us=>
       rw[hc,hl] at h; cases h
       obtain⟨h1,h2⟩:=rW (a:=a) (j:=j) hl (fun y hy=>hev y (List.mem_cons_of_mem _ hy))
       refine⟨by simp[h1],fun i p u hp hu=> ?_⟩
       cases i with
       | zero=>
         simp at hp hu
         subst hp hu
         exact hev x List.mem_cons_self v hc
       | succ i=>exact h2 i p u (by simpa using hp) (by simpa using hu)
theorem mw (z:Array Value) (n:Nat):(madeCells z (n*z.size)).toList=(List.replicate n z.toList).flatten:=by
 have hf:(madeCells z (n*z.size)).toList=(List.range (n*z.size)).map (fun i=>z[i % z.size]!):=by simp[madeCells]
 rw[hf]
 clear hf
 induction n with
 | zero=>simp
 | succ n ih=>
   rw[Nat.succ_mul,List.range_add,List.map_append,ih,List.replicate_succ',List.flatten_concat]
   congr 1
   apply List.ext_getElem?
   intro i
   by_cases hi:i<z.size
   ·have:(n*z.size+i) % z.size=i:=by rw[Nat.add_comm,Nat.add_mul_mod_self_right,Nat.mod_eq_of_lt hi]
    simp[hi,this]
   ·simp[hi]
theorem mc {j:J} {vk:List VK} (hv:Vk ρ vk):∀{ks:List CE} {cs:List C} {r:E} {vs:List Value},rowE vk ks cs=some r→denL ρ j cs=some vs→vs=rowV ks (r.L ρ)∧ar ks (r.L ρ)=true
 | [],[],r,vs,h,hd=>by cases h; cases hd; exact⟨rfl,rfl⟩
 | some k::ks,.int k' x::cs,r,vs,h,hd=>by
   simp only[rowE] at h
   split at h
   ·rename_i hk
    simp only[Bool.and_eq_true] at hk
    rw[Option.map_eq_some_iff] at h
    obtain⟨t,ht,rfl⟩:=h
    simp only[denL,C.den] at hd
    cases hl:denL ρ j cs with
    | none=>rw[hl] at hd; cases hd
    | some us=>
      rw[hl] at hd; cases hd
      obtain⟨h1,h2⟩:=mc hv ht hl
      refine⟨by simp only[E.L,rowV,fA]; rw[h1,ao hk.1],?_⟩
      simp only[E.L,ar,inCE,Bool.and_eq_true]
      exact⟨E.rng_ok hv x hk.2,h2⟩
   ·cases h
 | none::ks,.bool x::cs,r,vs,h,hd=>by
   simp only[rowE,Option.map_eq_some_iff] at h
   obtain⟨t,ht,rfl⟩:=h
   simp only[denL,C.den] at hd
   cases hl:denL ρ j cs with
   | none=>rw[hl] at hd; cases hd
   | some us=>
     rw[hl] at hd; cases hd
     obtain⟨h1,h2⟩:=mc hv ht hl
     refine⟨by simp only[E.L,rowV,fA]; rw[h1]; congr 2; cases x.B ρ<;>rfl,?_⟩
     simp only[E.L,ar,Bool.and_eq_true]
     exact⟨xB _,h2⟩
theorem qR {j:J} {vk:List VK} (hv:Vk ρ vk) {ks:List CE}:∀(n:Nat) {cs:List C} {l:E} {vs:List Value},sP vk ks n cs=some l→denL ρ j cs=some vs→vs=flat ks (l.R ρ)∧(l.R ρ).length=n∧∀r∈l.R ρ,ar ks r=true
 | 0,[],l,vs,h,hd=>by cases h; cases hd; exact⟨rfl,rfl,fun r hr=>by cases hr⟩
 | 0,_::_,l,vs,h,hd=>by simp[sP] at h
 | n+1,cs,l,vs,h,hd=>by
   simp only[sP] at h
   split at h
   ·rename_i r l' hr hl
    cases h
    obtain⟨h1,h2⟩:=mc hv hr (gu hd _)
    obtain⟨h3,h4,h5⟩:=qR hv n hl (em hd _)
    rw[abO,bj,←h1,←h3]
    refine⟨by rw[List.take_append_drop],by simp[h4],fun x hx=> ?_⟩
    rcases List.mem_cons.1 hx with rfl | hx
    ·exact h2
    ·exact h5 x hx
   ·cases h
theorem Ext.of_grown {w w':World} (h:w.grownBy w' none):Ext w w':=Below.grown (Ext.refl w) h (Nat.le_refl _) (fun k hk=>by cases hk)
theorem oz {ρ:Env} {base nid:Nat} {w w':World} {j:J} {u:SV} {r:RowOb} {v:V} (hx:Ext w w') (hr:RowOk ρ w.heap.size w' u r) (ho:r.own=true) {eff:Eff} (he:eff={val:=v,rd:=eff.rd,rr:=eff.rr,re:=.mk [r]}) (hz:u.z=[]:=by first | rfl | assumption):Does ρ base nid eff j w (j.putL nid [u]) w':=by
 rw[he]
 refine⟨hx,[u],rfl,fun i u' r' h1 h2=> ?_,fun i i' u1 u2 k h1 h2 _ _=> ?_,fun u' hu'=>NewZ.nil (by rw[List.mem_singleton.1 hu']; exact hz),by simp[hz,J.addzs]⟩
 ·cases i with
  | zero=>simp at h1 h2; subst h1 h2; exact⟨hr,ho⟩
  | succ i=>simp at h1
 ·cases i with
  | zero=>
    cases i' with
    | zero=>rfl
    | succ i'=>simp at h2
  | succ i=>simp at h1
theorem nC {ρ:Env} {j:J} {nid:Nat} {u:SV}:(V.one (.sl nid)).den ρ (j.putL nid [u])=some u.v:=by
 simp[V.den,C.den,J.putL]
theorem pb {ρ:Env} {j:J} {nid:Nat} {u:SV}:(V.one (.sl nid)).den ρ (j.putS nid u)=some u.v:=by
 simp[V.den,C.den,J.putS]
theorem kA (hT:∀t i,(t,i)∈cx.ty→TIok P t i) {t n:Nat} {ps:Array (Nat×Operand)} {kw:Kw} (hop:o.op=.buildSlice t n ps) {parts:List (Nat×V)} (hps:evP vw.ev ps.toList=some parts) {i:TI} (hi:af t cx.ty=some i) {et:Nat} (ha:i.sle=some et) {ie:TI} (hie:af et cx.ty=some ie)
  {ks:List CE} {cs:List C} (hfill:kF (fun m=>some (m*ie.size,ie.size)) ((List.replicate n ie.zero).flatten) parts=some cs) {l:E} (hl:sP kw.vk ks n cs=some l) (hq:n*ie.size≤16777216∧0<ie.size∧ks.length=ie.size)
  (h:(k {val:=.one (.sl vw.nid),re:=.mk [⟨ks,et,l,true,.sl⟩]} kw).holds sp G ρ I) (hg:Good sp cx.sm ρ kw):Sound P sp ρ G I base cx vw o k kw:=by
 refine⟨_,kw,h,hg,.refl _,fun j a w hb hev hrd hwr hrr hfb K Q hK=> ?_⟩
 obtain⟨h1,h2⟩:=rW (a:=a) (j:=j) hps (fun x hx=>hev x (by
  simp only[hop,Op.operands]
  simpa using hx))
 have h3:(ps.map fun p=>(p.1,a.eval p.2)).toList=ps.toList.map fun p=>(p.1,a.eval p.2):=Array.toList_map ..
 have hx:execOp a.eval o=(do let v ←Instr.buildSlice t n (ps.map fun p=>(p.1,a.eval p.2)); pure (.value v)):=by simp only[execOp,hop]
 have hu:=(hT _ _ (ab hi)).sle et ha
 have hte:=hT _ _ (ab hie)
 have hsz:=hte.size
 obtain⟨inf,z,hinf,hisz,_,hz,hzl,hzd⟩:=hte.info
 have hzs:z.cells.size=ie.size:=by simpa using hzl
 have zer:denL ρ j ((List.replicate n ie.zero).flatten)=some (madeCells z.cells (n*ie.size)).toList:=by
  rw[←hzs,mw]
  have:∀n,denL ρ j ((List.replicate n ie.zero).flatten)=some ((List.replicate n z.cells.toList).flatten):=by
   intro n
   induction n with
   | zero=>rfl
   | succ n ih=>
     simp only[List.replicate_succ,List.flatten_cons]
     exact dx (hzd ρ j) ih
  exact this n
 obtain⟨cells,h4,h5⟩:=kl (j:=j) parts _ cs _ (madeCells z.cells (n*ie.size)) hfill zer h1 h2
 obtain⟨h6,h7,h8⟩:=qR hg.vk n hl h5
 have hmax:n≤maxLen:=by
  have:n*1≤n*ie.size:=Nat.mul_le_mul_left n hq.2.1
  simp only[maxLen]; omega
 have hcs:cells.size=n*ks.length:=by
  have:=congrArg List.length h6
  rw[aL h8,h7] at this
  simpa using this
 have own:=World.ownsRow_lit (base:=w.heap.size) (e:=et) (size:=ks.length) w cells n (Nat.le_refl _) hmax hcs
 rw[h6] at own
 refine bs (w':=w.alloc (.cells cells et)) (v:=(⟨some ⟨w.heap.size,0,none⟩,n,n,[]⟩:SV).v) ?_ (hK _ (j.putL vw.nid [⟨some ⟨w.heap.size,0,none⟩,n,n,[]⟩]) _ nC (oz (Ext.of_grown (World.grownBy_alloc w _ none)) (RowOk.mk_own rfl h7.symm ⟨h8,by rw[h7]; exact hmax⟩ (by simp only; omega) own) rfl rfl))
 rw[hx]
 have hbig:¬(16777216<n*ie.size):=by omega
 by_cases hn0:n*ie.size=0
 ·have hn:n=0:=by
   rcases Nat.mul_eq_zero.1 hn0 with h | h
   ·exact h
   ·omega
  subst hn
  have h4':Instr.fill (fun m=>some (m*ie.size,ie.size)) #[] (ps.toList.map fun p=>(p.1,a.eval p.2))=some cells:=by
   rw[←h4]; congr 1
   simp[madeCells]
  simp[Instr.buildSlice,Sem.run_bind,run_underlying hu,hsz,h3,Array.range_zero',h4',newRow,SV.v]
 ·simp only[madeCells] at h4
  simp[Instr.buildSlice,Sem.run_bind,run_underlying hu,hsz,h3,hbig,hn0,zeroValue,typeInfo,hinf,hz,h4,newRow,SV.v]
theorem lK (hT:∀t i,(t,i)∈cx.ty→TIok P t i) {t:Nat} {x y:Operand} {kw:Kw} (hop:o.op=.makeSlice t x y) {k1 k2:IntKind} {e e':E} (hx:vw.ev x=some (.one (.int k1 e))) (hy:vw.ev y=some (.one (.int k2 e'))) {i:TI} (hi:af t cx.ty=some i) {et:Nat} (ha:i.sle=some et) {ie:TI} (hie:af et cx.ty=some ie)
  {ks:List CE} {r:E} (hr:rowE kw.vk ks ie.zero=some r) (hq:e.same e'=true∧0<ie.size∧ks.length=ie.size∧ie.bytes≤65536)
  (h:(decK (mkLt e (.lit 0)) (fun b kw=>if b then .panic else decK (mkLt e (.lit bigB)) (fun b kw=>if b then
         k {val:=.one (.sl vw.nid),re:=.mk [⟨ks,et,.lrep e r,true,.sl⟩]} kw else .panic) kw) kw).holds sp G ρ I) (hg:Good sp cx.sm ρ kw):Sound P sp ρ G I base cx vw o k kw:=by
 have hv0:=hg.vk
 obtain⟨kw1,h1,g1,_,l1⟩:=ak _ _ _ h hg
 rw[aG] at h1
 split at h1
 ·exact h1.elim
 rename_i hneg
 obtain⟨kw2,h2,g2,_,l2⟩:=ak _ _ _ h1 g1
 rw[aG] at h2
 split at h2
 ·rename_i hbig
  have hneg':0≤e.I ρ:=by
   have h3:¬e.I ρ<0:=of_decide_eq_false (Bool.eq_false_iff.2 hneg)
   omega
  have hbig':e.I ρ<1073741824:=of_decide_eq_true hbig
  have hes:=E.same_eq hq.1
  rw[←hes] at hy
  refine⟨_,kw2,h2,g2,l2.trans l1,fun j a w hb hev hrd hwr hrr hfb K Q hK=> ?_⟩
  have hdx:=aQ (hev x (by simp[hop,Op.operands]) _ hx)
  have hdy:=aQ (hev y (by simp[hop,Op.operands]) _ hy)
  have hu:=(hT _ _ (ab hi)).sle et ha
  have hte:=hT _ _ (ab hie)
  obtain⟨inf,z,hinf,hisz,hbytes,hz,hzl,hzd⟩:=hte.info
  obtain⟨h6,h7⟩:=mc hv0 hr (hzd ρ j)
  have hN:((e.I ρ).toNat:Int)=e.I ρ:=Int.toNat_of_nonneg hneg'
  have hlt:(e.I ρ).toNat<1073741824:=by omega
  have hmax:(e.I ρ).toNat≤maxLen:=by simp only[maxLen]; omega
  have hbb:inf.bytes*(e.I ρ).toNat≤281474976710656:=by
   have:inf.bytes*(e.I ρ).toNat≤65536*1073741824:=Nat.mul_le_mul (by omega) (by omega)
   omega
  obtain⟨w',h3,h4,h5⟩:=run_make_full (P:=P) w w.heap.size t et inf z ie.size hu hinf hz hisz k1 k2 (e.I ρ).toNat hbb hmax (Nat.le_refl _)
  have hzs:z.cells.size=ie.size:=by simpa using hzl
  have hflat:(madeCells z.cells ((e.I ρ).toNat*ie.size)).toList=flat ks ((E.lrep e r).R ρ):=by
   rw[←hzs,mw,h6]
   simp[E.R,flat,List.flatMap_replicate]
  rw[hflat,←hq.2.2.1] at h4
  have hlen:((E.lrep e r).R ρ).length=(e.I ρ).toNat:=by simp[E.R]
  refine bs (w':=w') (v:=(⟨some ⟨w.heap.size,0,none⟩,(e.I ρ).toNat,(e.I ρ).toNat,[]⟩:SV).v) ?_ (hK _ (j.putL vw.nid [⟨some ⟨w.heap.size,0,none⟩,(e.I ρ).toNat,(e.I ρ).toNat,[]⟩]) _ nC (oz (Ext.of_grown h5) (RowOk.mk_own rfl hlen.symm ⟨fun x hx=> ?_,by rw[hlen]; exact hmax⟩ (by simp only; omega) h4) rfl rfl))
  ·rw[hN] at h3
   simp[execOp,hop,hdx,hdy,h3,SV.v,Sem.run_bind]
  ·simp only[E.R,List.mem_replicate] at hx
   rw[hx.2]; exact h7
 ·exact h2.elim
end
end Go.Proofs.Ytghiofgomcihcaa
