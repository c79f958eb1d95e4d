import Derived.Test.YtfkhblmeioiciaaGreatDoorSyZa
import Derived.Sort.Row
import Derived.Laws.CopyRow
import Derived.Laws.BytesString
set_option linter.unusedVariables false
set_option linter.unusedSimpArgs false
namespace Go.Proofs.YtfkhblmeioiciaaGreatDoor
open Go.RowKit
section
variable {P:Program} {sp:Spec} {ρ:Env} {G:Env→E→Prop} {I:Nat→List Dt→Prop} {base:Nat} {cx:Cx} {vw:Vw} {o:Oper} {k:Eff→Kw→Tr}
theorem pA {e:E} {n:Nat} {kk:Nat→Kw→Tr}:∀(m:Nat) (kw:Kw),m≤n→(rE e n kk m kw).holds sp G ρ I→Good sp cx.sm ρ kw→∃i kw',i<n∧e.I ρ=(i:Int)∧(kk i kw').holds sp G ρ I∧Good sp cx.sm ρ kw'∧KwGe kw' kw
 | 0,kw,_,h,hg=>h.elim
 | m+1,kw,hm,h,hg=>by
   simp only[rE] at h
   obtain⟨kw1,h1,g1,_,l1⟩:=aF _ _ _ h hg
   rw[rM] at h1
   split at h1
   ·rename_i hb
    have hb':e.I ρ=((n-(m+1):Nat):Int):=by simpa[E.I] using hb
    exact⟨n-(m+1),kw1,by omega,hb',h1,g1,l1⟩
   ·obtain⟨i,kw2,h2,h3,h4,g2,l2⟩:=pA m kw1 (by omega) h1 g1
    exact⟨i,kw2,h2,h3,h4,g2,l2.trans l1⟩
theorem ib (hT:∀t i,(t,i)∈cx.ty→TIok P t i) {t:Nat} {x y:Operand} {kw:Kw} (hop:o.op=.indexAddr t x y) {c:C} {c':Nat→C} (hx:vw.ev x=some (.one c)) {k0:IntKind} {e:E} (hy:vw.ev y=some (.one (.int k0 e))) {i:TI} (hi:ar t cx.ty=some i)
  {n et:Nat} (ha:i.arr=some (n,et)) {ie:TI} (hie:ar et cx.ty=some ie) (hmv:∀m j v,c.den ρ j=some v→∃a,v=.pointer (some a)∧(c' m).den ρ j=some (.pointer (some (a.add (m*ie.size)))))
  (h:(rE e n (fun m kw=>k {val:=.one (c' m)} kw) n kw).holds sp G ρ I) (hg:Good sp cx.sm ρ kw):Sound P sp ρ G I base cx vw o k kw:=by
 obtain⟨m,kw',hm,he,h1,g1,l1⟩:=pA n kw (Nat.le_refl _) h hg
 have hu:=(hT _ _ (ak hi)).arr n et ha
 have hs:=(hT _ _ (ak hie)).size
 refine⟨_,kw',h1,g1,l1,OpOk.pure fun j a w _ hev _ _ _=> ?_⟩
 obtain⟨p,hp,hd⟩:=hmv m j _ (hev x (by simp[hop,Op.operands]) _ hx)
 have hq:=bH (hev y (by simp[hop,Op.operands]) _ hy)
 refine⟨_,hd,?_⟩
 have hlt:(0:Int)≤(m:Int)∧(m:Int)<(n:Int):=by omega
 simp[execOp,hop,hp,hq,he,Instr.indexAt,run_underlying hu,Instr.sureAddr,asIntOf,hlt,hs,Sem.run_bind]
 omega
theorem aav (hT:∀t i,(t,i)∈cx.ty→TIok P t i) {t:Nat} {x y:Operand} {kw:Kw} (hop:o.op=.index t x y) {cs:List C} (hx:vw.ev x=some (.agg cs)) {k0:IntKind} {e:E} (hy:vw.ev y=some (.one (.int k0 e))) {i:TI} (hi:ar t cx.ty=some i)
  {n et:Nat} (ha:i.arr=some (n,et)) {ie:TI} (hie:ar et cx.ty=some ie) (h:(rE e n (fun m kw=>match yb cx et cs (m*ie.size) with | some v=>k {val:=v} kw | none=>.stuck 30) n kw).holds sp G ρ I) (hg:Good sp cx.sm ρ kw):Sound P sp ρ G I base cx vw o k kw:=by
 obtain⟨m,kw',hm,he,h1,g1,l1⟩:=pA n kw (Nat.le_refl _) h hg
 have hu:=(hT _ _ (ak hi)).arr n et ha
 have hs:=(hT _ _ (ak hie)).size
 split at h1
 ·rename_i v hv
  refine⟨_,kw',h1,g1,l1,OpOk.pure fun j a w _ hev _ _ _=> ?_⟩
  have hd:=hev x (by simp[hop,Op.operands]) _ hx
  simp only[V.den,Option.map_eq_some_iff] at hd
  obtain⟨vs,hvs,hp⟩:=hd
  have hq:=bH (hev y (by simp[hop,Op.operands]) _ hy)
  obtain⟨u,hu',hr⟩:=ace hT hv hvs w
  refine⟨u,hu',?_⟩
  have hlt:(0:Int)≤(m:Int)∧(m:Int)<(n:Int):=by omega
  simp[execOp,hop,←hp,hq,he,Instr.index,run_underlying hu,asIntOf,hlt,hs,Sem.run_bind,hr]
  omega
 ·exact h1.elim
theorem afj (ρ:Env) (e l:E):(inB e l).B ρ=(decide (0≤e.I ρ)&&decide (e.I ρ<((l.R ρ).length:Int))):=by
 simp only[inB,fj,df,bL,dg,E.I]
 rw[bv]
 rfl
theorem qK (hT:∀t i,(t,i)∈cx.ty→TIok P t i) {t:Nat} {x y:Operand} {kw:Kw} (hop:o.op=.indexAddr t x y) {id:Nat} (hx:vw.ev x=some (.one (.sl id))) {k0:IntKind} {e:E} (hy:vw.ev y=some (.one (.int k0 e))) {i:TI} (hi:ar t cx.ty=some i)
  {et:Nat} (ha:i.sle=some et) {ie:TI} (hie:ar et cx.ty=some ie) {r:RowOb} (hr:vw.sw id=some r) (hks:r.ks.length=ie.size)
  (h:(decK (inB e r.l) (fun b kw=>if b then k {val:=.one (.ep id ie.size e 0),rr:=[id]} kw else .panic) kw).holds sp G ρ I) (hg:Good sp cx.sm ρ kw):Sound P sp ρ G I base cx vw o k kw:=by
 obtain⟨kw',h1,g1,_,l1⟩:=aF _ _ _ h hg
 rw[afj] at h1
 split at h1
 ·rename_i hb
  simp only[Bool.and_eq_true,decide_eq_true_eq] at hb
  refine⟨_,kw',h1,g1,l1,OpOk.pure fun j a w _ hev _ hrr _=> ?_⟩
  obtain⟨s,hs,hok⟩:=hrr.sl id (by simp) r hr
  have hd:=hev x (by simp[hop,Op.operands]) _ hx
  simp only[V.den,C.den,hs,Option.map_some,Option.some.injEq] at hd
  have hq:=bH (hev y (by simp[hop,Op.operands]) _ hy)
  have hu:=(hT _ _ (ak hi)).sle et ha
  have hsz:=(hT _ _ (ak hie)).size
  obtain⟨sa,sn,sc,sz⟩:=s
  have hn:=hok.n
  simp only at hn
  have hrd:=hok.rd
  cases sa with
  | none=>have:=(hrd.2.2.2.1 rfl).1; simp only at this; omega
  | some p=>
    refine⟨.pointer (some (p.add ((e.I ρ).toNat*ie.size+0))),by simp[V.den,C.den,hs,SV.elem],?_⟩
    have hlt:(0:Int)≤e.I ρ∧e.I ρ<(sn:Int):=by omega
    simp[execOp,hop,←hd,SV.v,hq,Instr.indexAt,run_underlying hu,asIntOf,hlt,hsz,Sem.run_bind]
 ·exact h1.elim
theorem dt {a:Addr} {w:World}:∀(vs:List Value) (i:Nat) (acc:Array Value),(∀m u,vs[m]? =some u→w.cell? (a.add (i+m))=some u)→(loadCellsFrom a i vs.length acc).run P w=.ok (acc++vs.toArray) w
 | [],i,acc,_=>by simp[loadCellsFrom]
 | v::vs,i,acc,h=>by
   have h0:=h 0 v rfl
   simp only[Nat.add_zero] at h0
   simp only[List.length_cons,loadCellsFrom,Sem.run_bind,load,Sem.run,h0,Result.andThen_ok]
   rw[dt vs (i+1) _ (fun m u hu=>by rw[Nat.add_assoc,Nat.add_comm 1 m]; exact h (m+1) u (by simpa using hu))]
   simp
theorem gR {j:J}:∀{cs:List C} {vs:List Value},cs.length=vs.length→(∀(m:Nat) c,cs[m]? =some c→∃u,vs[m]? =some u∧c.den ρ j=some u)→denL ρ j cs=some vs
 | [],vs,hl,_=>by
   cases vs with
   | nil=>rfl
   | cons=>cases hl
 | c::cs,vs,hl,h=>by
   cases vs with
   | nil=>cases hl
   | cons v vs=>
     obtain⟨u,hu,hd⟩:=h 0 c rfl
     simp only[List.getElem?_cons_zero,Option.some.injEq] at hu
     subst hu
     have:=gR (cs:=cs) (vs:=vs) (by simpa using hl) (fun m c hm=>by simpa using h (m+1) c (by simpa using hm))
     simp[denL,hd,this]
theorem eY {ld:Nat→Nat→Option C} {b:Nat}:∀(n o:Nat) (cs:List C),eZ ld b o n=some cs→cs.length=n∧∀m c,cs[m]? =some c→ld b (o+m)=some c
 | 0,o,cs,h=>by cases h; exact⟨rfl,fun m c hm=>by simp at hm⟩
 | n+1,o,cs,h=>by
   simp only[eZ] at h
   cases hc:ld b o with
   | none=>rw[hc] at h; cases h
   | some c=>
     cases hl:eZ ld b (o+1) n with
     | none=>rw[hc,hl] at h; cases h
     | some l=>
       rw[hc,hl] at h; cases h
       obtain⟨h1,h2⟩:=eY n (o+1) l hl
       refine⟨by simp[h1],fun m c' hm=> ?_⟩
       cases m with
       | zero=>simp at hm; subst hm; exact hc
       | succ m=>rw[show o+(m+1)=o+1+m by omega]; exact h2 m c' (by simpa using hm)
theorem acX {j:J} {b off:Nat} {v:Value} (h:(V.one (.fp b off)).den ρ j=some v):∃kk,j.f b=some kk∧v=.pointer (some ⟨kk,off,none⟩):=by
 simp only[V.den,C.den,Option.map_eq_some_iff] at h
 obtain⟨kk,hk,rfl⟩:=h
 exact⟨kk,hk,rfl⟩
theorem oA (hT:∀t i,(t,i)∈cx.ty→TIok P t i) {t:Nat} {x:Operand} {kw:Kw} (hop:o.op=.load t x) {b off:Nat} (hx:vw.ev x=some (.one (.fp b off))) {i:TI} (hi:ar t cx.ty=some i) (hagg:i.agg=true) {cs:List C} (hcs:eZ (fun b o=>(vw.fb b).bind (·[o]?)) b off i.size=some cs) (hsol:cs.all C.solid=true)
  (h:(k {val:=.agg cs} kw).holds sp G ρ I) (hg:Good sp cx.sm ρ kw):Sound P sp ρ G I base cx vw o k kw:=by
 refine⟨_,kw,h,hg,.refl _,OpOk.pure fun j a w _ hev _ _ hfb=> ?_⟩
 have ht:=hT _ _ (ak hi)
 obtain⟨kk,hk,he⟩:=acX (hev x (by simp[hop,Op.operands]) _ hx)
 obtain⟨hlen,hget⟩:=eY _ _ _ hcs
 by_cases h0:i.size=0
 ·have hnil:cs=[]:=List.eq_nil_of_length_eq_zero (by omega)
  subst hnil
  refine⟨.agg #[],rfl,?_⟩
  simp[execOp,hop,he,Instr.loadAt,Instr.sureAddr,Sem.run_bind,loadVar,ht.agg,hagg,ht.size,loadCells,h0,loadCellsFrom]
 have hcont:∃c0,vw.fb b=some c0:=by
  cases hb:vw.fb b with
  | some c0=>exact⟨c0,rfl⟩
  | none=>
    exfalso
    have h1:0<cs.length:=by omega
    have:=hget 0 cs[0] (List.getElem?_eq_getElem h1)
    simp[hb] at this
 obtain⟨c0,hc0⟩:=hcont
 obtain⟨kk',vs,h1,_,h2,h3⟩:=hfb.2 b c0 hc0
 rw[hk] at h1; cases h1
 have hv:∀m c,cs[m]? =some c→∃u,vs[off+m]? =some u∧c.den ρ j=some u:=fun m c hm=>by
  have:=hget m c hm
  simp only[hc0,Option.bind_some] at this
  exact bO h2 (off+m) c this
 have hus:denL ρ j cs=some ((vs.drop off).take i.size):=by
  refine gR ?_ (fun m c hm=> ?_)
  ·rw[List.length_take,List.length_drop,hlen]
   obtain⟨u,hu,_⟩:=hv (cs.length-1) cs[cs.length-1] (List.getElem?_eq_getElem (by omega))
   have:=(List.getElem?_eq_some_iff.1 hu).1
   omega
  ·obtain⟨u,hu,hd⟩:=hv m c hm
   refine⟨u,?_,hd⟩
   have hlt:=(List.getElem?_eq_some_iff.1 hm).1
   rw[List.getElem?_take,if_pos (by omega),List.getElem?_drop]
   exact hu
 have hl:=aI hus
 refine⟨_,by simp only[V.den,hus]; rfl,?_⟩
 have h4:=dt (P:=P) (a:=⟨kk,off,none⟩) (w:=w) ((vs.drop off).take i.size) 0 #[] (fun m u hu=>by
  rw[bG,Nat.zero_add]
  have hlt:m<i.size:=by
   have:=(List.getElem?_eq_some_iff.1 hu).1
   rw[List.length_take] at this; omega
  rw[List.getElem?_take,if_pos hlt,List.getElem?_drop] at hu
  refine h3 _ u hu ?_
  have hc:=List.getElem?_eq_getElem (show m<cs.length by omega)
  have hg:=hget m _ hc
  simp only[hc0,Option.bind_some] at hg
  unfold eO
  rw[List.getD_eq_getElem?_getD,hg]
  exact List.all_eq_true.1 hsol _ (List.getElem_mem _))
 rw[hl,hlen] at h4
 simp[execOp,hop,he,Instr.loadAt,Instr.sureAddr,Sem.run_bind,loadVar,ht.agg,hagg,ht.size,loadCells,h4]
theorem oB (hT:∀t i,(t,i)∈cx.ty→TIok P t i) {t:Nat} {x:Operand} {kw:Kw} (hop:o.op=.load t x) {b off:Nat} (hx:vw.ev x=some (.one (.fp b off))) {i:TI} (hi:ar t cx.ty=some i) (hagg:¬i.agg=true) {c:C} (hc:(vw.fb b).bind (·[off]?)=some c) (hsol:c.solid=true)
  (h:(k {val:=.one c} kw).holds sp G ρ I) (hg:Good sp cx.sm ρ kw):Sound P sp ρ G I base cx vw o k kw:=by
 refine⟨_,kw,h,hg,.refl _,OpOk.pure fun j a w _ hev _ _ hfb=> ?_⟩
 have ht:=hT _ _ (ak hi)
 obtain⟨kk,hk,he⟩:=acX (hev x (by simp[hop,Op.operands]) _ hx)
 rw[Option.bind_eq_some_iff] at hc
 obtain⟨c0,hc0,hc⟩:=hc
 obtain⟨kk',vs,h1,_,h2,h3⟩:=hfb.2 b c0 hc0
 rw[hk] at h1; cases h1
 obtain⟨u,hu,hd⟩:=bO h2 off c hc
 have hagg':i.agg=false:=by simpa using hagg
 have h4:=h3 off u hu (by unfold eO; rw[List.getD_eq_getElem?_getD,hc]; exact hsol)
 exact⟨u,hd,by simp[execOp,hop,he,Instr.loadAt,Instr.sureAddr,Sem.run_bind,loadVar,ht.agg,hagg',load,Sem.run,h4]⟩
theorem afs {j:J} {id esz off:Nat} {e:E} {v:Value} {s:SV} (hs:j.s id=some s) (h:(V.one (.ep id esz e off)).den ρ j=some v):∃a,s.a=some a∧v=.pointer (some (a.add ((e.I ρ).toNat*esz+off))):=by
 simp only[V.den,C.den,hs,Option.bind_some,SV.elem,Option.map_eq_some_iff] at h
 obtain⟨a,ha,rfl⟩:=h
 exact⟨a,ha,rfl⟩
theorem pt (ρ:Env) (j:J) (l e:E) (c:Nat) (k:CE):(rowC l e c k).den ρ j=some (fq k (gt (l.R ρ) (e.I ρ) c)):=by
 cases k<;>simp[rowC,C.den,fq,ai5,ae6]
theorem rC {l e:E}:∀{ks:List CE} {c0 m:Nat} {c:C},(jB l e c0 ks)[m]? =some c→∃k,ks[m]? =some k∧c=rowC l e (c0+m) k
 | [],c0,m,c,h=>by simp[jB] at h
 | k::ks,c0,m,c,h=>by
   cases m with
   | zero=>simp[jB] at h; exact⟨k,rfl,h.symm⟩
   | succ m=>
     obtain⟨k',h1,h2⟩:=rC (ks:=ks) (c0:=c0+1) (m:=m) (by simpa[jB] using h)
     exact⟨k',by simpa using h1,by rw[h2]; congr 1; omega⟩
theorem kf (l e:E):∀(ks:List CE) (c0:Nat),(jB l e c0 ks).length=ks.length
 | [],_=>rfl
 | k::ks,c0=>by simp[jB,kf l e ks]
theorem aat (hT:∀t i,(t,i)∈cx.ty→TIok P t i) {t:Nat} {x:Operand} {kw:Kw} (hop:o.op=.load t x) {id esz off:Nat} {e:E} (hx:vw.ev x=some (.one (.ep id esz e off))) {i:TI} (hi:ar t cx.ty=some i) {r:RowOb} (hr:vw.sw id=some r) (hks:r.ks.length=esz) (hoff:off+i.size≤esz)
  (h:(decK (inB e r.l) (fun b kw=>if b then
      (if i.agg then k {val:=.agg (jB r.l e off ((r.ks.drop off).take i.size)),rr:=[id]} kw
      else match r.ks[off]? with
       | some ck=>k {val:=.one (rowC r.l e off ck),rr:=[id]} kw
       | none=>.stuck 53)
      else .stuck 54) kw).holds sp G ρ I) (hg:Good sp cx.sm ρ kw):Sound P sp ρ G I base cx vw o k kw:=by
 obtain⟨kw',h1,g1,_,l1⟩:=aF _ _ _ h hg
 rw[afj] at h1
 have ht:=hT _ _ (ak hi)
 split at h1
 ·rename_i hb
  simp only[Bool.and_eq_true,decide_eq_true_eq] at hb
  have cells:∀{j:J} {w:World} {s:SV} {p:Addr},SlOk ρ base w s r→s.a=some p→∀c ck,r.ks[c]? =some ck→w.cell? (p.add ((e.I ρ).toNat*esz+c))=some (fq ck (gt (r.l.R ρ) (e.I ρ) c)):=by
   intro j w s p hok hp c ck hck
   have:=kP hck (i:=(e.I ρ).toNat) hok.rows.row (by omega)
   rw[hks] at this
   exact hok.rd.2.2.2.2 p hp _ _ this
  split at h1
  ·rename_i hagg
   refine⟨_,kw',h1,g1,l1,OpOk.pure fun j a w _ hev _ hrr _=> ?_⟩
   obtain⟨s,hs,hok⟩:=hrr.sl id (by simp) r hr
   obtain⟨p,hp,he⟩:=afs hs (hev x (by simp[hop,Op.operands]) _ hx)
   have hkl:((r.ks.drop off).take i.size).length=i.size:=by rw[List.length_take,List.length_drop]; omega
   have hus:denL ρ j (jB r.l e off ((r.ks.drop off).take i.size))=some ((List.range i.size).map fun m=>fq ((r.ks[off+m]?).getD none) (gt (r.l.R ρ) (e.I ρ) (off+m))):=by
    refine gR (by rw[kf,hkl]; simp) (fun m c hm=> ?_)
    obtain⟨ck,hck,rfl⟩:=rC hm
    have hm':m<i.size:=by
     have:=(List.getElem?_eq_some_iff.1 hck).1
     omega
    rw[List.getElem?_take,if_pos hm',List.getElem?_drop] at hck
    refine⟨_,?_,pt ρ j _ _ _ _⟩
    simp[hm',hck]
   refine⟨_,by simp only[V.den,hus]; rfl,?_⟩
   have h4:=dt (P:=P) (a:=p.add ((e.I ρ).toNat*esz+off)) (w:=w) ((List.range i.size).map fun m=>fq ((r.ks[off+m]?).getD none) (gt (r.l.R ρ) (e.I ρ) (off+m))) 0 #[] (fun m u hu=>by
    rw[Nat.zero_add,bU,Nat.add_assoc]
    have hm':m<i.size:=by
     have:=(List.getElem?_eq_some_iff.1 hu).1
     simpa using this
    obtain⟨ck,hck⟩:∃ck,r.ks[off+m]? =some ck:=⟨_,List.getElem?_eq_getElem (by omega)⟩
    have:=cells (j:=j) hok hp (off+m) ck hck
    simp[hm',hck] at hu
    rw[this,hu])
   simp only[List.length_map,List.length_range] at h4
   simp[execOp,hop,he,Instr.loadAt,Instr.sureAddr,Sem.run_bind,loadVar,ht.agg,hagg,ht.size,loadCells,h4]
  ·rename_i hagg
   split at h1
   ·rename_i ck hck
    refine⟨_,kw',h1,g1,l1,OpOk.pure fun j a w _ hev _ hrr _=> ?_⟩
    obtain⟨s,hs,hok⟩:=hrr.sl id (by simp) r hr
    obtain⟨p,hp,he⟩:=afs hs (hev x (by simp[hop,Op.operands]) _ hx)
    have h4:=cells (j:=j) hok hp off ck hck
    have hagg':i.agg=false:=by simpa using hagg
    exact⟨_,pt ρ j _ _ _ _,by simp[execOp,hop,he,Instr.loadAt,Instr.sureAddr,Sem.run_bind,loadVar,ht.agg,hagg',load,Sem.run,h4]⟩
   ·exact h1.elim
 ·exact h1.elim
theorem aeZ {w:World} {base ty esz:Nat} {s:SV} {xs:List Value} (h:w.ownsRow base ty esz s.v s.n xs) {p:Addr} (hp:s.a=some p):∃g,p=⟨g,0,none⟩∧s.v=.slice (some ⟨g,0,none⟩) s.n s.c:=by
 rcases h.2 with⟨hv,_⟩ | ⟨g,cap,cur,hv,_⟩
 ·simp only[SV.v,hp] at hv; cases hv
 ·simp only[SV.v,hp,Value.slice.injEq,Option.some.injEq] at hv
  exact⟨g,hv.1,by simp only[SV.v,hp,hv.1]⟩
theorem agW {ks:List CE} {L:List (List Int)} {c:Nat} {k:CE} (hk:ks[c]? =some k) {x:Int} (hx:inCE k x=true) (h:RowsIn ks L) (i:Int):RowsIn ks (st L i c x):=by
 refine⟨fun r hr=> ?_,by rw[eN]; exact h.len⟩
 rcases rN hr with hr | ⟨r0,hr0,rfl⟩
 ·exact h.row r hr
 ·exact mj (h.row r0 hr0) hk hx
theorem kb {ty g n cap:Nat} {e:E} {j:J} {vk:List VK} (hv:Vk ρ vk):∀(ks0:List CE) (cs:List C) (l l':E) (off i0:Nat) (vs:List Value) (w:World) (p:Addr),
  ge vk l e off ks0 cs=some l'→denL ρ j cs=some vs→∀ks:List CE,(∀m:Nat,ks0[m]? =ks[off+m]?)→RowsIn ks (l.R ρ)→(e.I ρ).toNat<(l.R ρ).length→w.ownsRow base ty ks.length (.slice (some ⟨g,0,none⟩) n cap) n (flat ks (l.R ρ))→(∀m,p.add (i0+m)=⟨g,(e.I ρ).toNat*ks.length+(off+m),none⟩)→
  ∃w',(storeCells p vs i0).run P w=.ok () w'∧w'.ownsRow base ty ks.length (.slice (some ⟨g,0,none⟩) n cap) n (flat ks (l'.R ρ))∧w.grownBy w' (some g)∧RowsIn ks (l'.R ρ)∧(l'.R ρ).length=(l.R ρ).length
 | ks0,[],l,l',off,i0,vs,w,p,hput,hd,ks,hsub,hrows,hi,hown,hp=>by
   have e1:l'=l:=by
    unfold ge at hput
    cases ks0 with
    | nil=>exact(Option.some.inj hput).symm
    | cons k ks0=>cases k<;>exact(Option.some.inj hput).symm
   subst e1
   cases hd
   exact⟨w,by simp[storeCells],hown,⟨rfl,rfl,rfl,Nat.le_refl _,fun _ _ _=>rfl⟩,hrows,rfl⟩
 | [],c::cs,l,l',off,i0,vs,w,p,hput,hd,ks,hsub,hrows,hi,hown,hp=>by simp[ge] at hput
 | k::ks0,c::cs,l,l',off,i0,vs,w,p,hput,hd,ks,hsub,hrows,hi,hown,hp=>by
   simp only[denL] at hd
   cases hc:c.den ρ j with
   | none=>rw[hc] at hd; cases hd
   | some v=>
     cases hl:denL ρ j cs with
     | none=>rw[hc,hl] at hd; cases hd
     | some us=>
       rw[hc,hl] at hd; cases hd
       have hk:ks[off]? =some k:=by have:=hsub 0; simpa using this.symm
       have hn:(flat ks (l.R ρ)).length=(l.R ρ).length*ks.length:=aY hrows.row
       have hcl:off<ks.length:=(List.getElem?_eq_some_iff.1 hk).1
       have step:∀(x:Int) (l1:E),v=fq k x→inCE k x=true→l1.R ρ=st (l.R ρ) (e.I ρ) off x→ge vk l1 e (off+1) ks0 cs=some l'→
        ∃w',(storeCells p (v::us) i0).run P w=.ok () w'∧w'.ownsRow base ty ks.length (.slice (some ⟨g,0,none⟩) n cap) n (flat ks (l'.R ρ))∧w.grownBy w' (some g)∧RowsIn ks (l'.R ρ)∧(l'.R ρ).length=(l.R ρ).length:=by
        intro x l1 hvx hx hl1 hput'
        have hfs:(flat ks (l.R ρ)).set ((e.I ρ).toNat*ks.length+off) (fq k x)=flat ks (l1.R ρ):=by rw[hl1]; exact wU hk x hrows.row hi
        have hlt:(e.I ρ).toNat*ks.length+off<n*ks.length:=by
         have h1:=hown.1
         rw[hn] at h1
         have h2:((e.I ρ).toNat+1)*ks.length≤(l.R ρ).length*ks.length:=Nat.mul_le_mul_right _ hi
         rw[Nat.succ_mul] at h2
         omega
        have hcell:∃u,w.cell? ⟨g,(e.I ρ).toNat*ks.length+off,none⟩=some u:=by
         have h1:=hown.cellAt _ hlt
         have h2:(e.I ρ).toNat*ks.length+off<(flat ks (l.R ρ)).length:=by rw[hown.1]; exact hlt
         exact⟨_,by rw[h1,List.getElem?_eq_getElem h2]⟩
        obtain⟨u,hu⟩:=hcell
        have hfr:=hown.frozenAt ((e.I ρ).toNat*ks.length+off)
        obtain⟨h3,h4⟩:=hown.stored ((e.I ρ).toNat*ks.length+off) v
        rw[hvx,hfs] at h3
        have hp0:=hp 0
        simp only[Nat.add_zero] at hp0
        have hone:v.oneCell'=true:=by rw[hvx]; cases k<;>rfl
        obtain⟨w',h5,h6,h7,h8,h9⟩:=kb hv ks0 cs l1 l' (off+1) (i0+1) us (w.setCell ⟨g,(e.I ρ).toNat*ks.length+off,none⟩ v) p hput' hl ks (fun m=>by have:=hsub (m+1); simpa[Nat.add_assoc,Nat.add_comm 1 m] using this)
         (by rw[hl1]; exact agW hk hx hrows _) (by rw[hl1,eN]; exact hi) (by rw[hvx]; exact h3) (fun m=>by rw[Nat.add_assoc,Nat.add_comm 1 m,hp (m+1)]; congr 1; omega)
        refine⟨w',?_,h6,h4.trans h7,h8,by rw[h9,hl1,eN]⟩
        simp only[storeCells,hp0,Sem.run_bind,run_store P w _ v _ hone,hu,hfr,Result.andThen_ok,Bool.false_eq_true,if_false]
        exact h5
       cases k with
       | none=>
         cases c<;>simp only[ge] at hput<;>first | cases hput | skip
         rename_i x
         have hvx:v=.bool (x.B ρ):=(Option.some.inj hc).symm
         exact step (b2i (x.B ρ)) _ (by rw[hvx]; simp only[fq]; cases x.B ρ<;>rfl) (adx _) rfl hput
       | some kd=>
         cases c<;>simp only[ge] at hput<;>first | cases hput | skip
         rename_i k' x
         split at hput
         ·rename_i hkk
          simp only[Bool.and_eq_true] at hkk
          have hvx:v=.int k' (x.I ρ):=(Option.some.inj hc).symm
          exact step (x.I ρ) _ (by rw[hvx,av hkk.1]; rfl) (E.rng_ok hv x hkk.2) rfl hput
         ·cases hput
theorem xE (hT:∀t i,(t,i)∈cx.ty→TIok P t i) {t:Nat} {x y:Operand} {kw:Kw} (hop:o.op=.store t x y) {id esz off:Nat} {e:E} (hx:vw.ev x=some (.one (.ep id esz e off))) {v:V} (hy:vw.ev y=some v) {i:TI} (hi:ar t cx.ty=some i)
  {r:RowOb} (hr:vw.sw id=some r) (hrown:r.own=true) (hks:r.ks.length=esz) (hf:v.flat=true) (hn:v.cells.length=i.size) (hoff:off+i.size≤esz)
  (h:(decK (inB e r.l) (fun b kw=>if b then
      (match ge kw.vk r.l e off (r.ks.drop off) v.cells with
       | some l=>k {val:=.one .undef,rr:=[id],re:=.set id {r with l:=l}} kw
       | none=>.stuck 57)
      else .stuck 58) kw).holds sp G ρ I) (hg:Good sp cx.sm ρ kw):Sound P sp ρ G I base cx vw o k kw:=by
 obtain⟨kw',h1,g1,_,l1⟩:=aF _ _ _ h hg
 rw[afj] at h1
 have ht:=hT _ _ (ak hi)
 split at h1
 ·rename_i hb
  simp only[Bool.and_eq_true,decide_eq_true_eq] at hb
  split at h1
  ·rename_i l hl
   refine⟨_,kw',h1,g1,l1,fun j a w _ hev hrd hwr hrr hfb K Q hK=> ?_⟩
   obtain⟨s,hs,hok⟩:=hrr.sl id (by simp) r hr
   obtain⟨p,hp,he⟩:=afs hs (hev x (by simp[hop,Op.operands]) _ hx)
   have hd:=V.cells_ok (hev y (by simp[hop,Op.operands]) v hy) hf
   have hown:=hok.own hrown
   obtain⟨g,rfl,hsv⟩:=aeZ hown hp
   rw[hsv] at hown
   obtain⟨w',h2,h3,h4,h5,h6⟩:=kb (P:=P) g1.vk (r.ks.drop off) v.cells r.l l off 0 _ w ((⟨g,0,none⟩:Addr).add ((e.I ρ).toNat*esz+off)) hl hd r.ks (fun m=>by rw[List.getElem?_drop]) hok.rows (by omega) hown
    (fun m=>by rw[bU,bG,hks]; congr 1; omega)
   have hsz:(a.eval y).cells.size=i.size:=by
    have:=aI hd
    rw[Array.length_toList,hn] at this
    exact this
   refine yY (w':=w') ?_ (hK _ j w' rfl ⟨rfl,s,hs,?_,RowOk.mk_own (r:={r with l:=l}) (Vw.sw_some hr).2 (by rw[hok.n]; exact h6.symm) h5 hok.pos (by rw[hsv]; exact h3)⟩)
   ·simp[execOp,hop,he,Instr.storeAt,Instr.sureAddr,Sem.run_bind,storeVar,ht.size,hsz,h2]
   ·rw[hsv]; exact h4
  ·exact h1.elim
 ·exact h1.elim
end
end Go.Proofs.YtfkhblmeioiciaaGreatDoor
set_option linter.unusedVariables false
set_option linter.unusedSimpArgs false
namespace Go.Proofs.YtfkhblmeioiciaaGreatDoor
open Go.RowKit
section
variable {P:Program} {sp:Spec} {ρ:Env} {G:Env→E→Prop} {I:Nat→List Dt→Prop} {base:Nat} {cx:Cx} {vw:Vw} {o:Oper} {k:Eff→Kw→Tr}
def oE:List Value→Nat→List Value→List Value
 | cs,_,[]=>cs
 | cs,off,v::r=>oE (cs.set off v) (off+1) r
theorem qP {j:J}:∀{vs:List C} {us:List Value} {cs:List C} {ws:List Value} {off:Nat},denL ρ j vs=some us→denL ρ j cs=some ws→denL ρ j (fX cs off vs)=some (oE ws off us)
 | [],us,cs,ws,off,h,h'=>by cases h; exact h'
 | v::vs,us,cs,ws,off,h,h'=>by
   simp only[denL] at h
   cases hc:v.den ρ j with
   | none=>rw[hc] at h; cases h
   | some u=>
     cases hl:denL ρ j vs with
     | none=>rw[hc,hl] at h; cases h
     | some l=>
       rw[hc,hl] at h; cases h
       exact qP (vs:=vs) (us:=l) hl (pS h' off v u hc)
theorem rW (off:Nat):∀(l:List Value) (m:Nat) (cells:Array Value),((l.zipIdx m).foldl (fun cs (p:Value×Nat)=>cs.setIfInBounds (off+p.2) p.1) cells).toList=oE cells.toList (off+m) l
 | [],m,cells=>rfl
 | v::l,m,cells=>by
   simp only[List.zipIdx_cons,List.foldl_cons]
   rw[rW off l (m+1)]
   simp[oE,Nat.add_assoc]
theorem pP {j:J} {pl:Nat→Option (Nat×Nat)}:∀(parts:List (Nat×V)) (cs cs':List C) (us:List (Nat×Value)) (cells:Array Value),uA pl cs parts=some cs'→denL ρ j cs=some cells.toList→(parts.map (·.1)=us.map (·.1))→
  (∀(i:Nat) p u,parts[i]? =some p→us[i]? =some u→p.2.den ρ j=some u.2)→∃cells',Instr.fill pl cells us=some cells'∧denL ρ j cs'=some cells'.toList
 | [],cs,cs',us,cells,h,hd,hm,hu=>by
   cases us with
   | nil=>cases h; exact⟨cells,rfl,hd⟩
   | cons _ _=>simp at hm
 | (i,v)::parts,cs,cs',us,cells,h,hd,hm,hu=>by
   cases us with
   | nil=>simp at hm
   | cons u us=>
     obtain⟨i',u⟩:=u
     simp only[List.map_cons,List.cons.injEq] at hm
     obtain⟨rfl,hm⟩:=hm
     simp only[uA] at h
     split at h
     ·rename_i off size hp
      split at h
      ·rename_i hc
       simp only[Bool.and_eq_true,decide_eq_true_eq] at hc
       obtain⟨h1,h2,h3⟩:=hc
       have hv:=hu 0 _ _ rfl rfl
       have hcells:=V.cells_ok hv h1
       have hl1:=aI hcells
       have hl2:=aI hd
       rw[Nat.eq_of_beq_eq_true h2] at hl1
       simp only[Array.length_toList] at hl1 hl2
       have hrow:denL ρ j (fX cs off v.cells)=some ((u.cells.zipIdx.foldl (fun cs (p:Value×Nat)=>cs.setIfInBounds (off+p.2) p.1) cells)).toList:=by
        rw[←Array.foldl_toList,Array.toList_zipIdx,rW]
        exact qP hcells hd
       obtain⟨cells',h5,h6⟩:=pP parts _ cs' us _ h hrow hm (fun i p w hp' hw=>hu (i+1) p w (by simpa using hp') (by simpa using hw))
       refine⟨cells',?_,h6⟩
       unfold Instr.fill
       have hc1:¬(u.cells.size≠size||decide (off+u.cells.size>cells.size))=true:=by simp; omega
       simp only[hp]
       rw[if_neg hc1]
       exact h5
      ·cases h
     ·cases h
theorem ac2 {ev:Operand→Option V} {j:J} {a:Act}:∀{l:List (Nat×Operand)} {vs:List (Nat×V)},evP ev l=some vs→(∀x∈l.map (·.2),∀v,ev x=some v→v.den ρ j=some (a.eval x))→
  vs.map (·.1)=(l.map fun p=>(p.1,a.eval p.2)).map (·.1)∧∀(i:Nat) p u,vs[i]? =some p→(l.map fun p=>(p.1,a.eval p.2))[i]? =some u→p.2.den ρ j=some u.2
 | [],vs,h,hev=>by cases h; exact⟨rfl,fun i p u hp=>by simp at hp⟩
 | (n,x)::l,vs,h,hev=>by
   simp only[evP] at h
   cases hc:ev x with
   | none=>rw[hc] at h; cases h
   | some v=>
     cases hl:evP ev l with
     | none=>rw[hc,hl] at h; cases h
     | some us=>
       rw[hc,hl] at h; cases h
       obtain⟨h1,h2⟩:=ac2 (a:=a) (j:=j) hl (fun y hy=>hev y (List.mem_cons_of_mem _ hy))
       refine⟨by simp[h1],fun i p u hp hu=> ?_⟩
       cases i with
       | zero=>
         simp at hp hu
         subst hp hu
         exact hev x List.mem_cons_self v hc
       | succ i=>exact h2 i p u (by simpa using hp) (by simpa using hu)
theorem wH (z:Array Value) (n:Nat):(madeCells z (n*z.size)).toList=(List.replicate n z.toList).flatten:=by
 have hf:(madeCells z (n*z.size)).toList=(List.range (n*z.size)).map (fun i=>z[i % z.size]!):=by simp[madeCells]
 rw[hf]
 clear hf
 induction n with
 | zero=>simp
 | succ n ih=>
   rw[Nat.succ_mul,List.range_add,List.map_append,ih,List.replicate_succ',List.flatten_concat]
   congr 1
   apply List.ext_getElem?
   intro i
   by_cases hi:i<z.size
   ·have:(n*z.size+i) % z.size=i:=by rw[Nat.add_comm,Nat.add_mul_mod_self_right,Nat.mod_eq_of_lt hi]
    simp[hi,this]
   ·simp[hi]
theorem jz {j:J} {vk:List VK} (hv:Vk ρ vk):∀{ks:List CE} {cs:List C} {r:E} {vs:List Value},rowE vk ks cs=some r→denL ρ j cs=some vs→vs=rowV ks (r.L ρ)∧az ks (r.L ρ)=true
 | [],[],r,vs,h,hd=>by cases h; cases hd; exact⟨rfl,rfl⟩
 | some k::ks,.int k' x::cs,r,vs,h,hd=>by
   simp only[rowE] at h
   split at h
   ·rename_i hk
    simp only[Bool.and_eq_true] at hk
    rw[Option.map_eq_some_iff] at h
    obtain⟨t,ht,rfl⟩:=h
    simp only[denL,C.den] at hd
    cases hl:denL ρ j cs with
    | none=>rw[hl] at hd; cases hd
    | some us=>
      rw[hl] at hd; cases hd
      obtain⟨h1,h2⟩:=jz hv ht hl
      refine⟨by simp only[E.L,rowV,fq]; rw[h1,av hk.1],?_⟩
      simp only[E.L,az,inCE,Bool.and_eq_true]
      exact⟨E.rng_ok hv x hk.2,h2⟩
   ·cases h
 | none::ks,.bool x::cs,r,vs,h,hd=>by
   simp only[rowE,Option.map_eq_some_iff] at h
   obtain⟨t,ht,rfl⟩:=h
   simp only[denL,C.den] at hd
   cases hl:denL ρ j cs with
   | none=>rw[hl] at hd; cases hd
   | some us=>
     rw[hl] at hd; cases hd
     obtain⟨h1,h2⟩:=jz hv ht hl
     refine⟨by simp only[E.L,rowV,fq]; rw[h1]; congr 2; cases x.B ρ<;>rfl,?_⟩
     simp only[E.L,az,Bool.and_eq_true]
     exact⟨adx _,h2⟩
theorem vW {j:J} {vk:List VK} (hv:Vk ρ vk) {ks:List CE}:∀(n:Nat) {cs:List C} {l:E} {vs:List Value},xY vk ks n cs=some l→denL ρ j cs=some vs→vs=flat ks (l.R ρ)∧(l.R ρ).length=n∧∀r∈l.R ρ,az ks r=true
 | 0,[],l,vs,h,hd=>by cases h; cases hd; exact⟨rfl,rfl,fun r hr=>by cases hr⟩
 | 0,_::_,l,vs,h,hd=>by simp[xY] at h
 | n+1,cs,l,vs,h,hd=>by
   simp only[xY] at h
   split at h
   ·rename_i r l' hr hl
    cases h
    obtain⟨h1,h2⟩:=jz hv hr (iX hd _)
    obtain⟨h3,h4,h5⟩:=vW hv n hl (fl hd _)
    rw[adg,bN,←h1,←h3]
    refine⟨by rw[List.take_append_drop],by simp[h4],fun x hx=> ?_⟩
    rcases List.mem_cons.1 hx with rfl | hx
    ·exact h2
    ·exact h5 x hx
   ·cases h
theorem Ext.of_grown {w w':World} (h:w.grownBy w' none):Ext w w':=Below.grown (Ext.refl w) h (Nat.le_refl _) (fun k hk=>by cases hk)
theorem acr {ρ:Env} {base nid:Nat} {w w':World} {j:J} {u:SV} {r:RowOb} {v:V} (hx:Ext w w') (hr:RowOk ρ w.heap.size w' u r) (ho:r.own=true) {eff:Eff} (he:eff={val:=v,rd:=eff.rd,rr:=eff.rr,re:=.mk [r]}) (hz:u.z=[]:=by first | rfl | assumption):Does ρ base nid eff j w (j.putL nid [u]) w':=by
 rw[he]
 refine⟨hx,[u],rfl,fun i u' r' h1 h2=> ?_,fun i i' u1 u2 k h1 h2 _ _=> ?_,fun u' hu'=>NewZ.nil (by rw[List.mem_singleton.1 hu']; exact hz),by simp[hz,J.addzs]⟩
 ·cases i with
  | zero=>simp at h1 h2; subst h1 h2; exact⟨hr,ho⟩
  | succ i=>simp at h1
 ·cases i with
  | zero=>
    cases i' with
    | zero=>rfl
    | succ i'=>simp at h2
  | succ i=>simp at h1
theorem aaC {ρ:Env} {j:J} {nid:Nat} {u:SV}:(V.one (.sl nid)).den ρ (j.putL nid [u])=some u.v:=by
 simp[V.den,C.den,J.putL]
theorem aaB {ρ:Env} {j:J} {nid:Nat} {u:SV}:(V.one (.sl nid)).den ρ (j.putS nid u)=some u.v:=by
 simp[V.den,C.den,J.putS]
theorem mW (hT:∀t i,(t,i)∈cx.ty→TIok P t i) {t n:Nat} {ps:Array (Nat×Operand)} {kw:Kw} (hop:o.op=.buildSlice t n ps) {parts:List (Nat×V)} (hps:evP vw.ev ps.toList=some parts) {i:TI} (hi:ar t cx.ty=some i) {et:Nat} (ha:i.sle=some et) {ie:TI} (hie:ar et cx.ty=some ie)
  {ks:List CE} {cs:List C} (hfill:uA (fun m=>some (m*ie.size,ie.size)) ((List.replicate n ie.zero).flatten) parts=some cs) {l:E} (hl:xY kw.vk ks n cs=some l) (hq:n*ie.size≤16777216∧0<ie.size∧ks.length=ie.size)
  (h:(k {val:=.one (.sl vw.nid),re:=.mk [⟨ks,et,l,true,.sl⟩]} kw).holds sp G ρ I) (hg:Good sp cx.sm ρ kw):Sound P sp ρ G I base cx vw o k kw:=by
 refine⟨_,kw,h,hg,.refl _,fun j a w hb hev hrd hwr hrr hfb K Q hK=> ?_⟩
 obtain⟨h1,h2⟩:=ac2 (a:=a) (j:=j) hps (fun x hx=>hev x (by
  simp only[hop,Op.operands]
  simpa using hx))
 have h3:(ps.map fun p=>(p.1,a.eval p.2)).toList=ps.toList.map fun p=>(p.1,a.eval p.2):=Array.toList_map ..
 have hx:execOp a.eval o=(do let v ←Instr.buildSlice t n (ps.map fun p=>(p.1,a.eval p.2)); pure (.value v)):=by simp only[execOp,hop]
 have hu:=(hT _ _ (ak hi)).sle et ha
 have hte:=hT _ _ (ak hie)
 have hsz:=hte.size
 obtain⟨inf,z,hinf,hisz,_,hz,hzl,hzd⟩:=hte.info
 have hzs:z.cells.size=ie.size:=by simpa using hzl
 have zer:denL ρ j ((List.replicate n ie.zero).flatten)=some (madeCells z.cells (n*ie.size)).toList:=by
  rw[←hzs,wH]
  have:∀n,denL ρ j ((List.replicate n ie.zero).flatten)=some ((List.replicate n z.cells.toList).flatten):=by
   intro n
   induction n with
   | zero=>rfl
   | succ n ih=>
     simp only[List.replicate_succ,List.flatten_cons]
     exact gS (hzd ρ j) ih
  exact this n
 obtain⟨cells,h4,h5⟩:=pP (j:=j) parts _ cs _ (madeCells z.cells (n*ie.size)) hfill zer h1 h2
 obtain⟨h6,h7,h8⟩:=vW hg.vk n hl h5
 have hmax:n≤maxLen:=by
  have:n*1≤n*ie.size:=Nat.mul_le_mul_left n hq.2.1
  simp only[maxLen]; omega
 have hcs:cells.size=n*ks.length:=by
  have:=congrArg List.length h6
  rw[aY h8,h7] at this
  simpa using this
 have own:=World.ownsRow_lit (base:=w.heap.size) (e:=et) (size:=ks.length) w cells n (Nat.le_refl _) hmax hcs
 rw[h6] at own
 refine eH (w':=w.alloc (.cells cells et)) (v:=(⟨some ⟨w.heap.size,0,none⟩,n,n,[]⟩:SV).v) ?_ (hK _ (j.putL vw.nid [⟨some ⟨w.heap.size,0,none⟩,n,n,[]⟩]) _ aaC (acr (Ext.of_grown (World.grownBy_alloc w _ none)) (RowOk.mk_own rfl h7.symm ⟨h8,by rw[h7]; exact hmax⟩ (by simp only; omega) own) rfl rfl))
 rw[hx]
 have hbig:¬(16777216<n*ie.size):=by omega
 by_cases hn0:n*ie.size=0
 ·have hn:n=0:=by
   rcases Nat.mul_eq_zero.1 hn0 with h | h
   ·exact h
   ·omega
  subst hn
  have h4':Instr.fill (fun m=>some (m*ie.size,ie.size)) #[] (ps.toList.map fun p=>(p.1,a.eval p.2))=some cells:=by
   rw[←h4]; congr 1
   simp[madeCells]
  simp[Instr.buildSlice,Sem.run_bind,run_underlying hu,hsz,h3,Array.range_zero',h4',newRow,SV.v]
 ·simp only[madeCells] at h4
  simp[Instr.buildSlice,Sem.run_bind,run_underlying hu,hsz,h3,hbig,hn0,zeroValue,typeInfo,hinf,hz,h4,newRow,SV.v]
theorem oz (hT:∀t i,(t,i)∈cx.ty→TIok P t i) {t:Nat} {x y:Operand} {kw:Kw} (hop:o.op=.makeSlice t x y) {k1 k2:IntKind} {e e':E} (hx:vw.ev x=some (.one (.int k1 e))) (hy:vw.ev y=some (.one (.int k2 e'))) {i:TI} (hi:ar t cx.ty=some i) {et:Nat} (ha:i.sle=some et) {ie:TI} (hie:ar et cx.ty=some ie)
  {ks:List CE} {r:E} (hr:rowE kw.vk ks ie.zero=some r) (hq:e.same e'=true∧0<ie.size∧ks.length=ie.size∧ie.bytes≤65536)
  (h:(decK (mkLt e (.lit 0)) (fun b kw=>if b then .panic else decK (mkLt e (.lit bigB)) (fun b kw=>if b then
         k {val:=.one (.sl vw.nid),re:=.mk [⟨ks,et,.lrep e r,true,.sl⟩]} kw else .panic) kw) kw).holds sp G ρ I) (hg:Good sp cx.sm ρ kw):Sound P sp ρ G I base cx vw o k kw:=by
 have hv0:=hg.vk
 obtain⟨kw1,h1,g1,_,l1⟩:=aF _ _ _ h hg
 rw[bL] at h1
 split at h1
 ·exact h1.elim
 rename_i hneg
 obtain⟨kw2,h2,g2,_,l2⟩:=aF _ _ _ h1 g1
 rw[bL] at h2
 split at h2
 ·rename_i hbig
  have hneg':0≤e.I ρ:=by
   have h3:¬e.I ρ<0:=of_decide_eq_false (Bool.eq_false_iff.2 hneg)
   omega
  have hbig':e.I ρ<1073741824:=of_decide_eq_true hbig
  have hes:=E.same_eq hq.1
  rw[←hes] at hy
  refine⟨_,kw2,h2,g2,l2.trans l1,fun j a w hb hev hrd hwr hrr hfb K Q hK=> ?_⟩
  have hdx:=bH (hev x (by simp[hop,Op.operands]) _ hx)
  have hdy:=bH (hev y (by simp[hop,Op.operands]) _ hy)
  have hu:=(hT _ _ (ak hi)).sle et ha
  have hte:=hT _ _ (ak hie)
  obtain⟨inf,z,hinf,hisz,hbytes,hz,hzl,hzd⟩:=hte.info
  obtain⟨h6,h7⟩:=jz hv0 hr (hzd ρ j)
  have hN:((e.I ρ).toNat:Int)=e.I ρ:=Int.toNat_of_nonneg hneg'
  have hlt:(e.I ρ).toNat<1073741824:=by omega
  have hmax:(e.I ρ).toNat≤maxLen:=by simp only[maxLen]; omega
  have hbb:inf.bytes*(e.I ρ).toNat≤281474976710656:=by
   have:inf.bytes*(e.I ρ).toNat≤65536*1073741824:=Nat.mul_le_mul (by omega) (by omega)
   omega
  obtain⟨w',h3,h4,h5⟩:=run_make_full (P:=P) w w.heap.size t et inf z ie.size hu hinf hz hisz k1 k2 (e.I ρ).toNat hbb hmax (Nat.le_refl _)
  have hzs:z.cells.size=ie.size:=by simpa using hzl
  have hflat:(madeCells z.cells ((e.I ρ).toNat*ie.size)).toList=flat ks ((E.lrep e r).R ρ):=by
   rw[←hzs,wH,h6]
   simp[E.R,flat,List.flatMap_replicate]
  rw[hflat,←hq.2.2.1] at h4
  have hlen:((E.lrep e r).R ρ).length=(e.I ρ).toNat:=by simp[E.R]
  refine eH (w':=w') (v:=(⟨some ⟨w.heap.size,0,none⟩,(e.I ρ).toNat,(e.I ρ).toNat,[]⟩:SV).v) ?_ (hK _ (j.putL vw.nid [⟨some ⟨w.heap.size,0,none⟩,(e.I ρ).toNat,(e.I ρ).toNat,[]⟩]) _ aaC (acr (Ext.of_grown h5) (RowOk.mk_own rfl hlen.symm ⟨fun x hx=> ?_,by rw[hlen]; exact hmax⟩ (by simp only; omega) h4) rfl rfl))
  ·rw[hN] at h3
   simp[execOp,hop,hdx,hdy,h3,SV.v,Sem.run_bind]
  ·simp only[E.R,List.mem_replicate] at hx
   rw[hx.2]; exact h7
 ·exact h2.elim
end
end Go.Proofs.YtfkhblmeioiciaaGreatDoor
set_option linter.unusedVariables false
set_option linter.unusedSimpArgs false
namespace Go.Proofs.YtfkhblmeioiciaaGreatDoor
open Go.RowKit
section
variable {P:Program} {sp:Spec} {ρ:Env} {G:Env→E→Prop} {I:Nat→List Dt→Prop} {base:Nat} {cx:Cx} {vw:Vw} {o:Oper} {k:Eff→Kw→Tr}
theorem aaD {j:J} {id:Nat} {s:SV} {v:Value} (hs:j.s id=some s) (h:(V.one (.sl id)).den ρ j=some v):v=s.v:=by
 simp only[V.den,C.den,hs,Option.map_some,Option.some.injEq] at h
 exact h.symm
theorem agj {j:J} {v:Value} (h:(V.one .nsl).den ρ j=some v):v=.slice none 0 0:=(Option.some.inj h).symm
theorem rv {w:World} {t et esz:Nat} (hu:P.underlying t=some (.slice et)) (hs:(sizeOf et).run P w=.ok esz w) (s:SV) (l h:Nat) (low high:Option Value) (hl:(low=none∧l=0)∨∃kd:IntKind,low=some (.int kd (l:Int))) (hh:(high=none∧h=s.n)∨∃kd:IntKind,high=some (.int kd (h:Int))) (h1:l≤h) (h2:h≤s.n) (h3:s.n≤s.c):
  (Instr.sliceAt t s.v low high none).run P w=.ok (⟨if s.c=l then s.a else s.a.map (·.add (l*esz)),h-l,s.c-l,[]⟩:SV).v w:=by
 have sb:∀(kd:IntKind) (m y:Nat) code,m≤y→(Instr.sliceBound (.int kd (m:Int)) y code).run P w=.ok m w:=fun kd m y code hmy=>by
  have h5:(m:Int)≤(y:Int):=by omega
  simp[Instr.sliceBound,asIntOf,Sem.run_bind,hmy]
 have b1:(Instr.sliceBounds true s.n s.c low high none).run P w=.ok (l,h,s.c) w:=by
  rcases hl with⟨rfl,rfl⟩ | ⟨kd,rfl⟩<;>rcases hh with⟨rfl,rfl⟩ | ⟨kd',rfl⟩
  ·simp[Instr.sliceBounds,Sem.run_bind]
  ·simp[Instr.sliceBounds,Sem.run_bind,sb kd' h s.c _ (by omega)]
  ·simp[Instr.sliceBounds,Sem.run_bind,sb kd l s.n _ (by omega)]
  ·simp[Instr.sliceBounds,Sem.run_bind,sb kd l h _ (by omega),sb kd' h s.c _ (by omega)]
 simp[Instr.sliceAt,Instr.slice,SV.v,run_underlying hu,Sem.run_bind,b1,hs]
theorem sq {s:SV} {l h esz:Nat}:∀k,(⟨if s.c=l then s.a else s.a.map (·.add (l*esz)),h-l,s.c-l,[]⟩:SV).blk false=some k→s.blk false=some k:=by
 intro k hk
 have hc:s.c≠0:=fun hc=>by
  unfold SV.blk at hk
  simp[hc] at hk
 refine mP hc ?_
 have hk:=aC hk
 obtain⟨a,n,c,z⟩:=s
 simp only[SV.v] at hk ⊢
 split at hk
 ·cases a<;>simp_all [Value.ownBlock]
 ·cases a with
  | none=>simp[Value.ownBlock] at hk
  | some a=>
    simp only[Option.map_some,Value.ownBlock,Option.some.injEq] at hk ⊢
    rw[←hk]
    unfold Addr.add
    split<;>rfl
theorem ajq {w:World} {s:SV} {r q:RowOb} {l h:Nat} (hok:SlOk ρ base w s r) (hq:q.ks=r.ks∧q.own=false) (hL:q.l.R ρ=((r.l.R ρ).take h).drop l) (h1:l≤h) (h2:h≤s.n):
  SlOk ρ base w ⟨if s.c=l then s.a else s.a.map (·.add (l*r.ks.length)),h-l,s.c-l,[]⟩ q:=by
 obtain⟨r1,r2,r3,r4,r5⟩:=hok.rd
 have hn:=hok.n
 have hlen:(q.l.R ρ).length=h-l:=by rw[hL,List.length_drop,List.length_take]; omega
 have hrows:∀x∈q.l.R ρ,az r.ks x=true:=fun x hx=>hok.rows.row x (by rw[hL] at hx; exact List.mem_of_mem_take (List.mem_of_mem_drop hx))
 refine⟨hlen.symm,⟨by rw[hq.1]; exact hrows,by rw[hlen]; omega⟩,by rw[hq.1]; exact hok.pos,fun k hk=> ?_,fun ho=>(by rw[hq.2] at ho; cases ho),?_⟩
 ·rw[hq.2] at hk
  exact hok.lt k (aZ (sq k hk))
 ·rw[hq.1]
  have hfl:flat r.ks (q.l.R ρ)=((flat r.ks (r.l.R ρ)).take (h*r.ks.length)).drop (l*r.ks.length):=by
   rw[rX h hok.rows.row,rY l (fun x hx=>hok.rows.row x (List.mem_of_mem_take hx)),hL]
  refine⟨by rw[aY hrows,hlen],by simp only; omega,by simp only; omega,fun ha=> ?_,fun a ha i u hi=> ?_⟩
  ·simp only at ha ⊢
   split at ha
   ·have:=r4 ha; omega
   ·rw[Option.map_eq_none_iff] at ha
    have:=r4 ha; omega
  ·simp only at ha
   have hlt:i<(flat r.ks (q.l.R ρ)).length:=(List.getElem?_eq_some_iff.1 hi).1
   rw[aY hrows,hlen] at hlt
   split at ha
   ·rename_i hc
    have:h-l=0:=by omega
    rw[this] at hlt
    omega
   ·rw[Option.map_eq_some_iff] at ha
    obtain⟨a0,ha0,rfl⟩:=ha
    rw[bU]
    refine r5 a0 ha0 _ u ?_
    rw[hfl,List.getElem?_drop,List.getElem?_take] at hi
    split at hi
    ·exact hi
    ·cases hi
theorem SlOk.shut {w:World} {s:SV} {r:RowOb} (h:SlOk ρ base w s r):SlOk ρ base w s {r with own:=false}:=⟨h.n,h.rows,h.pos,fun k hk=>h.lt k (aZ hk),fun ho=>(by cases ho),h.rd⟩
theorem sQ (hT:∀t i,(t,i)∈cx.ty→TIok P t i) {t:Nat} {x:Operand} {lo hi':Option Operand} {kw:Kw} (hop:o.op=.slice t x lo hi' none) {id:Nat} (hx:vw.ev x=some (.one (.sl id))) {i:TI} (hi:ar t cx.ty=some i) {et:Nat} (ha:i.sle=some et) {ie:TI} (hie:ar et cx.ty=some ie)
  {r:RowOb} (hr:vw.sw id=some r) (hks:r.ks.length=ie.size) {L H:Nat}
  (hlo:(lo=none∧L=0)∨∃y kd e,lo=some y∧vw.ev y=some (.one (.int kd e))∧e.I ρ=(L:Int)) (hhi:(hi'=none∧H=(r.l.R ρ).length)∨∃y kd e,hi'=some y∧vw.ev y=some (.one (.int kd e))∧e.I ρ=(H:Int))
  {l':E} (hl':l'.R ρ=((r.l.R ρ).take H).drop L) (hLH:L≤H∧H≤(r.l.R ρ).length)
  (h:(k {val:=.one (.sl vw.nid),rr:=[id],re:=.view id {r with own:=false} ⟨r.ks,et,l',false,.sl⟩} kw).holds sp G ρ I) (hg:Good sp cx.sm ρ kw):Sound P sp ρ G I base cx vw o k kw:=by
 refine⟨_,kw,h,hg,.refl _,fun j a w hbw hev hrd hwr hrr hfb K Q hK=> ?_⟩
 obtain⟨s,hs,hok⟩:=hrr.sl id (by simp) r hr
 have hd:=aaD hs (hev x (by simp[hop,Op.operands]) _ hx)
 have hu:=(hT _ _ (ak hi)).sle et ha
 have hsz:=(hT _ _ (ak hie)).size w
 rw[←hks] at hsz
 have hn:=hok.n
 have hl1:(lo.map a.eval=none∧L=0)∨∃kd:IntKind,lo.map a.eval=some (.int kd (L:Int)):=by
  rcases hlo with⟨rfl,h0⟩ | ⟨y,kd,e,rfl,hy,he⟩
  ·exact .inl ⟨rfl,h0⟩
  ·exact .inr ⟨kd,by rw[Option.map_some,bH (hev y (by simp[hop,Op.operands]) _ hy),he]⟩
 have hh1:(hi'.map a.eval=none∧H=s.n)∨∃kd:IntKind,hi'.map a.eval=some (.int kd (H:Int)):=by
  rcases hhi with⟨rfl,h0⟩ | ⟨y,kd,e,rfl,hy,he⟩
  ·exact .inl ⟨rfl,by rw[h0,hn]⟩
  ·exact .inr ⟨kd,by rw[Option.map_some,bH (hev y (by simp[hop,Op.operands]) _ hy),he]⟩
 have hrun:=rv (P:=P) hu hsz s L H _ _ hl1 hh1 hLH.1 (by omega) hok.rd.2.1
 refine eH (w':=w) (v:=(⟨if s.c=L then s.a else s.a.map (·.add (L*r.ks.length)),H-L,s.c-L,[]⟩:SV).v) ?_ (hK _ (j.putS vw.nid ⟨if s.c=L then s.a else s.a.map (·.add (L*r.ks.length)),H-L,s.c-L,[]⟩) w aaB ⟨rfl,s,_,hs,hok.shut.row (Vw.sw_some hr).2,(ajq (q:=⟨r.ks,et,l',false,.sl⟩) hok ⟨rfl,rfl⟩ hl' hLH.1 (by omega)).row rfl,sq,Zin.nil rfl,rfl⟩)
 simp only[execOp,hop,hd,Option.map_none,Sem.run_bind,hrun,Result.andThen_ok,Sem.run_pure]
theorem aao (hT:∀t i,(t,i)∈cx.ty→TIok P t i) {t:Nat} {x:Operand} {kw:Kw} (hop:o.op=.slice t x none none none) {id:Nat} (hx:vw.ev x=some (.one (.sl id))) {i:TI} (hi:ar t cx.ty=some i) {et:Nat} (ha:i.sle=some et) {ie:TI} (hie:ar et cx.ty=some ie)
  (h:(k {val:=.one (.sl id)} kw).holds sp G ρ I) (hg:Good sp cx.sm ρ kw):Sound P sp ρ G I base cx vw o k kw:=by
 refine⟨_,kw,h,hg,.refl _,OpOk.pure fun j a w _ hev _ _ _=> ?_⟩
 have hd:=hev x (by simp[hop,Op.operands]) _ hx
 refine⟨_,hd,?_⟩
 simp only[V.den,C.den,Option.map_eq_some_iff] at hd
 obtain⟨s,_,hs⟩:=hd
 have hu:=(hT _ _ (ak hi)).sle et ha
 have hsz:=(hT _ _ (ak hie)).size w
 obtain⟨sa,sn,sc,sz⟩:=s
 have e0:∀a:Addr,a.add 0=a:=fun a=>by simp[Addr.add]
 have e:(if sc=0 then sa else sa.map fun x=>x.add 0)=sa:=by
  split
  ·rfl
  ·cases sa<;>simp[e0]
 simp[execOp,hop,←hs,SV.v,Instr.sliceAt,Instr.slice,run_underlying hu,Sem.run_bind,Instr.sliceBounds,hsz,e,e0]
theorem ai9 {kw:Kw} {l:E} (hl:(l.R ρ).length≤maxLen):(lenE kw.vk l).I ρ=((l.R ρ).length:Int):=by
 have h:=dg ρ l
 unfold lenE
 split
 ·rename_i z hz; rw[hz] at h; exact h
 ·rename_i e hne
  split
  ·exact h
  ·show IntKind.i64.wrap _=_
   rw[h]
   refine yX ?_
   rw[aT]
   simp only[maxLen] at hl
   simp only[IntKind.min,IntKind.max,IntKind.signed,IntKind.bits]
   simp
   omega
theorem agY (hT:∀t i,(t,i)∈cx.ty→TIok P t i) {c:Call} {kw:Kw} (hop:o.op=.call c) (hc:c.callee=.builtin .len) {id t:Nat} (hl:evL vw.ev c.args.toList=some [.one (.sl id)]) (hty:c.argTypes.toList=[t]) {i:TI} (hi:ar t cx.ty=some i) (hsl:i.sle.isSome=true) {r:RowOb} (hr:vw.sw id=some r)
  (h:(k {val:=.one (.int .i64 (lenE kw.vk r.l)),rr:=[id]} kw).holds sp G ρ I) (hg:Good sp cx.sm ρ kw):Sound P sp ρ G I base cx vw o k kw:=by
 refine⟨_,kw,h,hg,.refl _,OpOk.pure fun j a w _ hev _ hrr _=> ?_⟩
 obtain⟨s,hs,hok⟩:=hrr.sl id (by simp) r hr
 obtain⟨h1,h2⟩:=gk (j:=j) (a:=a) hl (fun x hx=>hev x (by simp[hop,Op.operands,Call.operands]; exact .inr (by simpa using hx)))
 have h3:c.args.map a.eval = #[s.v]:=by
  have:c.args.toList.map a.eval=[s.v]:=by
   match hm:c.args.toList.map a.eval,h2 with
   | [u],_=>rw[hm] at h1; rw[aaD hs (h1 0 _ u rfl rfl)]
  rw[←Array.toArray_toList (xs:=c.args.map a.eval),Array.toList_map,this]
 obtain⟨et,het⟩:=Option.isSome_iff_exists.1 hsl
 have hu:=(hT _ _ (ak hi)).sle et het
 have hat:c.argTypes = #[t]:=by rw[←Array.toArray_toList (xs:=c.argTypes),hty]
 have hle:(r.l.R ρ).length≤maxLen:=hok.rows.len
 refine⟨.int .i64 (s.n:Int),by rw[hok.n]; simp[V.den,C.den,ai9 hle],?_⟩
 simp[execOp,hop,resolve,hc,h3,hat,Sem.run_bind,invoke,builtin,Builtin.len_,run_underlying hu,SV.v,goInt]
theorem adQ (hT:∀t i,(t,i)∈cx.ty→TIok P t i) {c:Call} {kw:Kw} (hop:o.op=.call c) (hc:c.callee=.builtin .len) {t:Nat} (hl:evL vw.ev c.args.toList=some [.one .nsl]) (hty:c.argTypes.toList=[t]) {i:TI} (hi:ar t cx.ty=some i) (hsl:i.sle.isSome=true)
  (h:(k {val:=.one (.int .i64 (.lit 0))} kw).holds sp G ρ I) (hg:Good sp cx.sm ρ kw):Sound P sp ρ G I base cx vw o k kw:=by
 refine⟨_,kw,h,hg,.refl _,OpOk.pure fun j a w _ hev _ hrr _=> ?_⟩
 obtain⟨h1,h2⟩:=gk (j:=j) (a:=a) hl (fun x hx=>hev x (by simp[hop,Op.operands,Call.operands]; exact .inr (by simpa using hx)))
 have h3:c.args.map a.eval = #[.slice none 0 0]:=by
  have:c.args.toList.map a.eval=[.slice none 0 0]:=by
   match hm:c.args.toList.map a.eval,h2 with
   | [u],_=>rw[hm] at h1; rw[agj (h1 0 _ u rfl rfl)]
  rw[←Array.toArray_toList (xs:=c.args.map a.eval),Array.toList_map,this]
 obtain⟨et,het⟩:=Option.isSome_iff_exists.1 hsl
 have hu:=(hT _ _ (ak hi)).sle et het
 have hat:c.argTypes = #[t]:=by rw[←Array.toArray_toList (xs:=c.argTypes),hty]
 refine⟨.int .i64 0,rfl,?_⟩
 simp[execOp,hop,resolve,hc,h3,hat,Sem.run_bind,invoke,builtin,Builtin.len_,run_underlying hu,goInt]
theorem agd {w:World} {base ty esz n:Nat} {v:Value} {xs:List Value} (h:w.ownsRow base ty esz v n xs):∃s:SV,v=s.v∧s.n=n∧s.z=[]:=by
 rcases h.2 with⟨rfl,rfl⟩ | ⟨g,cap,cur,rfl,_⟩
 ·exact⟨⟨none,0,0,[]⟩,rfl,rfl,rfl⟩
 ·exact⟨⟨some ⟨g,0,none⟩,n,cap,[]⟩,rfl,rfl,rfl⟩
theorem eW {w:World} {base t ty e:Nat} {inf:TypeInfo} {z:Value} (ht:P.underlying t=some (.slice e)) (hi:P.info? e=some inf) (hz:inf.zero=some z) (hzs:z.cells.size=inf.size) (hsz:0<inf.size) {v:Value} {n:Nat} {xs:List Value} (hown:w.ownsRow base e inf.size v n xs)
  {x:SV} {news:List Value} (hrd:RdRow w inf.size x news) (h1:∀u∈news,u.oneCell'=true) (h63:n+x.n≤maxLen) (hbytes:(n+x.n)*inf.bytes≤140737488355328) (hbase:base≤w.heap.size):
  ∃s' w',(Builtin.append_ #[t,t] ty #[v,x.v]).run P w=.ok (SV.v s') w'∧s'.n=n+x.n∧w'.ownsRow base e inf.size s'.v (n+x.n) (xs++news)∧w.grownBy w' v.ownBlock∧(s'.v.ownBlock=v.ownBlock∨s'.v.ownBlock=some w.heap.size)∧s'.z=[]:=by
 obtain⟨xa,xn,xc,xz⟩:=x
 cases xa with
 | none=>
   obtain⟨h2,h3⟩:=hrd.2.2.2.1 rfl
   simp only at h2 h3
   subst h2 h3
   have hnil:news=[]:=by
    have:=hrd.1
    simp only[Nat.zero_mul] at this
    exact List.eq_nil_of_length_eq_zero this
   subst hnil
   obtain⟨s,rfl,hn,hsz⟩:=agd hown
   exact⟨s,w,run_append_owned_none w base t ty e inf inf.size ht hi _ n xs hown,hn,by simpa using hown,⟨rfl,rfl,rfl,Nat.le_refl _,fun _ _ _=>rfl⟩,.inl rfl,hsz⟩
 | some a=>
   obtain⟨v',w',hr,h2,h3,_,h5⟩:=run_append_own_at (P:=P) w base t ty e inf z inf.size inf.bytes ht hi hz rfl rfl hzs hsz v n xs hown a xn xc news hrd.1 (fun j u hj=>hrd.2.2.2.2 a rfl j u hj) h1 h63 hbytes hbase
   obtain⟨s,rfl,hn,hsz⟩:=agd h2
   exact⟨s,w',hr,hn,h2,h3,h5,hsz⟩
theorem alr {c:Call} {a:Act} {j:J} {v1 v2:V} (hl:evL vw.ev c.args.toList=some [v1,v2]) (hev:∀x∈c.args.toList,∀v,vw.ev x=some v→v.den ρ j=some (a.eval x)):∃u1 u2,c.args.map a.eval = #[u1,u2]∧v1.den ρ j=some u1∧v2.den ρ j=some u2:=by
 obtain⟨h1,h2⟩:=gk (j:=j) (a:=a) hl hev
 match hm:c.args.toList.map a.eval,h2 with
 | [u1,u2],_=>
   rw[hm] at h1
   exact⟨u1,u2,by rw[←Array.toArray_toList (xs:=c.args.map a.eval),Array.toList_map,hm],h1 0 _ u1 rfl rfl,h1 1 _ u2 rfl rfl⟩
theorem ali (ρ:Env) (a b:E):(catE a b).R ρ=a.R ρ++b.R ρ:=by
 unfold catE
 split
 ·simp[E.R]
 ·split<;>simp[E.R]
theorem sR (hT:∀t i,(t,i)∈cx.ty→TIok P t i) {c:Call} {kw:Kw} (hop:o.op=.call c) (hc:c.callee=.builtin .append) {id t:Nat} (hl:evL vw.ev c.args.toList=some [.one .nsl,.one (.sl id)]) (hty:c.argTypes.toList=[t,t]) {i:TI} (hi:ar t cx.ty=some i) {et:Nat} (ha:i.sle=some et) {ie:TI} (hie:ar et cx.ty=some ie)
  {r:RowOb} (hr:vw.sw id=some r) (hq:r.ty=et∧r.ks.length=ie.size∧0<ie.size∧ie.bytes≤65536)
  (h:(decK (mkLt (cO r.l) (.lit bigB)) (fun b kw=>if b then k {val:=.one (.sl vw.nid),rr:=[id],re:=.mk [⟨r.ks,et,r.l,true,.sl⟩]} kw else .panic) kw).holds sp G ρ I) (hg:Good sp cx.sm ρ kw):Sound P sp ρ G I base cx vw o k kw:=by
 obtain⟨kw1,h1,g1,_,l1⟩:=aF _ _ _ h hg
 rw[bL,dg] at h1
 split at h1
 ·rename_i hbig
  have hbig':((r.l.R ρ).length:Int)<1073741824:=of_decide_eq_true hbig
  refine⟨_,kw1,h1,g1,l1,fun j a w hb hev hrd hwr hrr hfb K Q hK=> ?_⟩
  obtain⟨s,hs,hok⟩:=hrr.sl id (by simp) r hr
  obtain⟨u1,u2,hargs,hd1,hd2⟩:=alr (j:=j) (a:=a) hl (fun x hx=>hev x (by simp[hop,Op.operands,Call.operands]; exact .inr (by simpa using hx)))
  have e1:=agj hd1
  have e2:=aaD hs hd2
  subst e1 e2
  have hu:=(hT _ _ (ak hi)).sle et ha
  obtain⟨inf,z,hinf,hisz,hbytes,hz,hzl,hzd⟩:=(hT _ _ (ak hie)).info
  have hat:c.argTypes = #[t,t]:=by rw[←Array.toArray_toList (xs:=c.argTypes),hty]
  have hn:=hok.n
  have hrd':=hok.rd
  rw[hq.2.1,←hisz] at hrd'
  obtain⟨s',w',h2,h3,h4,h5,h6,h7⟩:=eW (P:=P) (base:=w.heap.size) (ty:=o.type) hu hinf hz (by rw[hisz]; simpa using hzl) (by omega) (World.ownsRow_nil w w.heap.size et inf.size) hrd' wV (by simp only[maxLen]; omega)
   (by
    have:(0+s.n)*inf.bytes≤1073741824*65536:=Nat.mul_le_mul (by omega) (by omega)
    omega) (Nat.le_refl _)
  simp only[Nat.zero_add,List.nil_append] at h3 h4
  rw[hisz,←hq.2.1,←h3] at h4
  refine eH (w':=w') (v:=s'.v) ?_ (hK _ (j.putL vw.nid [s']) _ aaC (acr (Ext.of_grown h5) (RowOk.mk_own (r:=⟨r.ks,et,r.l,true,.sl⟩) rfl (by rw[h3]; exact hn) hok.rows hok.pos h4) rfl rfl))
  simp only[execOp,hop,resolve,hc,hargs,hat,Sem.run_bind,Sem.run_pure,Result.andThen_ok,invoke,builtin,h2]
 ·exact h1.elim
theorem xG (hT:∀t i,(t,i)∈cx.ty→TIok P t i) {c:Call} {kw:Kw} (hop:o.op=.call c) (hc:c.callee=.builtin .append) {old id t:Nat} (hl:evL vw.ev c.args.toList=some [.one (.sl old),.one (.sl id)]) (hty:c.argTypes.toList=[t,t]) {i:TI} (hi:ar t cx.ty=some i) {et:Nat} (ha:i.sle=some et) {ie:TI} (hie:ar et cx.ty=some ie)
  {r q:RowOb} (hr:vw.sw id=some r) (hrq:vw.sw old=some q) (hq:r.ty=et∧r.ks.length=ie.size∧0<ie.size∧ie.bytes≤65536) (hq2:q.own=true∧q.ty=et∧q.ks=r.ks)
  (h:(decK (jH (mkLt (cO q.l) (.lit bigB)) (mkLt (cO r.l) (.lit bigB))) (fun b kw=>if b then k {val:=.one (.sl vw.nid),rr:=[old,id],re:=.app old ⟨r.ks,et,catE q.l r.l,true,.sl⟩} kw else .panic) kw).holds sp G ρ I) (hg:Good sp cx.sm ρ kw):Sound P sp ρ G I base cx vw o k kw:=by
 obtain⟨kw1,h1,g1,_,l1⟩:=aF _ _ _ h hg
 rw[fj,bL,bL,dg,dg] at h1
 split at h1
 ·rename_i hbig
  rw[Bool.and_eq_true] at hbig
  have hb1:((q.l.R ρ).length:Int)<1073741824:=of_decide_eq_true hbig.1
  have hb2:((r.l.R ρ).length:Int)<1073741824:=of_decide_eq_true hbig.2
  refine⟨_,kw1,h1,g1,l1,fun j a w hb hev hrd hwr hrr hfb K Q hK=> ?_⟩
  obtain⟨s,hs,hok⟩:=hrr.sl id (by simp) r hr
  obtain⟨p,hp,hop'⟩:=hrr.sl old (by simp) q hrq
  obtain⟨u1,u2,hargs,hd1,hd2⟩:=alr (j:=j) (a:=a) hl (fun x hx=>hev x (by simp[hop,Op.operands,Call.operands]; exact .inr (by simpa using hx)))
  have e1:=aaD hp hd1
  have e2:=aaD hs hd2
  subst e1 e2
  have hu:=(hT _ _ (ak hi)).sle et ha
  obtain⟨inf,z,hinf,hisz,hbytes,hz,hzl,hzd⟩:=(hT _ _ (ak hie)).info
  have hat:c.argTypes = #[t,t]:=by rw[←Array.toArray_toList (xs:=c.argTypes),hty]
  have hn:=hok.n
  have hpn:=hop'.n
  have hown:=hop'.own hq2.1
  rw[hq2.2.1,hq2.2.2,hq.2.1,←hisz] at hown
  have hrd':=hok.rd
  rw[hq.2.1,←hisz] at hrd'
  obtain⟨s',w',h2,h3,h4,h5,h6,h7⟩:=eW (P:=P) (base:=base) (ty:=o.type) hu hinf hz (by rw[hisz]; simpa using hzl) (by omega) hown hrd' wV (by simp only[maxLen]; omega)
   (by
    have:(p.n+s.n)*inf.bytes≤2147483648*65536:=Nat.mul_le_mul (by omega) (by omega)
    omega) hb
  rw[←uy,hisz,←hq.2.1,←h3] at h4
  have hR:(catE q.l r.l).R ρ=q.l.R ρ++r.l.R ρ:=ali ρ _ _
  refine eH (w':=w') (v:=s'.v) ?_ (hK _ (j.putS vw.nid s') _ aaB ⟨p,s',hp,h5,RowOk.mk_own (r:=⟨r.ks,et,catE q.l r.l,true,.sl⟩) rfl ?_ ⟨fun x hx=> ?_,?_⟩ hok.pos (by simp only[hR]; exact h4),h6,Zin.nil h7,rfl⟩)
  ·simp only[execOp,hop,resolve,hc,hargs,hat,Sem.run_bind,Sem.run_pure,Result.andThen_ok,invoke,builtin,h2]
  ·simp only[hR,List.length_append]; omega
  ·simp only[hR,List.mem_append] at hx
   rcases hx with hx | hx
   ·have:=hop'.rows.row x hx; rw[hq2.2.2] at this; exact this
   ·exact hok.rows.row x hx
  ·simp only[hR,List.length_append,maxLen]; omega
 ·exact h1.elim
end
end Go.Proofs.YtfkhblmeioiciaaGreatDoor
set_option linter.unusedVariables false
set_option linter.unusedSimpArgs false
namespace Go.Proofs.YtfkhblmeioiciaaGreatDoor
open Go.RowKit
open Go.Sort (mapBlock onCells setCell_eq mapBlock_mapBlock mapBlock_congr)
section
variable {P:Program} {sp:Spec} {ρ:Env} {G:Env→E→Prop} {I:Nat→List Dt→Prop} {base:Nat} {cx:Cx} {vw:Vw} {o:Oper} {k:Eff→Kw→Tr}
theorem afh (e:E) (n:Nat):(inR e n).B ρ=(decide (0≤e.I ρ)&&decide (e.I ρ<(n:Int))):=by
 unfold inR
 rw[fj,df,bL,bL]
 show(!decide (e.I ρ<0)&&decide (e.I ρ<(n:Int)))=_
 congr 1
 by_cases h:e.I ρ<0
 ·rw[decide_eq_true h,decide_eq_false (by omega:¬0≤e.I ρ)]; rfl
 ·rw[decide_eq_false h,decide_eq_true (by omega:0≤e.I ρ)]; rfl
theorem wD {j:J} {b o n sz:Nat} {e:E} {off fo:Nat} {v:Value} (h:(C.pe b o n sz e off).den ρ j=some v):∃a,v=.pointer (some a)∧(C.pe b o n sz e (off+fo)).den ρ j=some (.pointer (some (a.add fo))):=by
 simp only[C.den,Option.map_eq_some_iff] at h
 obtain⟨kk,hk,rfl⟩:=h
 exact⟨_,rfl,by simp only[C.den,hk,Option.map_some,bG]; congr 4; omega⟩
theorem ox {x:Operand} {kw:Kw} (hop:o.op=.nilCheck x) {b o0 n sz off:Nat} {e:E} (hx:vw.ev x=some (.one (.pe b o0 n sz e off))) (h:(k {val:=.one (.pe b o0 n sz e off)} kw).holds sp G ρ I) (hg:Good sp cx.sm ρ kw):Sound P sp ρ G I base cx vw o k kw:=by
 refine⟨_,kw,h,hg,.refl _,OpOk.pure fun j a w _ hev _ _ _=>⟨a.eval x,hev x (by simp[hop,Op.operands]) _ hx,?_⟩⟩
 have hd:=hev x (by simp[hop,Op.operands]) _ hx
 obtain⟨a',he,_⟩:=wD (fo:=0) (show(C.pe b o0 n sz e off).den ρ j=some (a.eval x) from hd)
 simp[execOp,hop,he]
theorem aiI {j:J} {b o n sz off:Nat} {e:E} {v:Value} (h:(V.one (.pe b o n sz e off)).den ρ j=some v):∃kk,j.b b=some kk∧v=.pointer (some ⟨kk,o+((e.I ρ).toNat*sz+off),none⟩):=by
 simp only[V.den,C.den,Option.map_eq_some_iff] at h
 obtain⟨kk,h1,h2⟩:=h
 exact⟨kk,h1,h2.symm⟩
theorem qJ (hT:∀t i,(t,i)∈cx.ty→TIok P t i) {t:Nat} {x y:Operand} {kw:Kw} (hop:o.op=.indexAddr t x y) {b off:Nat} (hx:vw.ev x=some (.one (.ptr b off))) {k0:IntKind} {e:E} (hy:vw.ev y=some (.one (.int k0 e))) {i:TI} (hi:ar t cx.ty=some i)
  {n et:Nat} (ha:i.arr=some (n,et)) {ie:TI} (hie:ar et cx.ty=some ie)
  (h:(decK (inR e n) (fun ok kw=>if ok then k {val:=.one (.pe b off n ie.size e 0)} kw else .panic) kw).holds sp G ρ I) (hg:Good sp cx.sm ρ kw):Sound P sp ρ G I base cx vw o k kw:=by
 obtain⟨kw1,g1,q1,_,l1⟩:=aF _ _ _ h hg
 rw[afh] at g1
 split at g1
 ·rename_i hr
  rw[Bool.and_eq_true,decide_eq_true_eq,decide_eq_true_eq] at hr
  have hu:=(hT _ _ (ak hi)).arr n et ha
  have hs:=(hT _ _ (ak hie)).size
  refine⟨_,kw1,g1,q1,l1,OpOk.pure fun j a w _ hev _ _ _=> ?_⟩
  obtain⟨kk,hk,he⟩:=kh (hev x (by simp[hop,Op.operands]) _ hx)
  have hq:=bH (hev y (by simp[hop,Op.operands]) _ hy)
  refine⟨.pointer (some ⟨kk,off+((e.I ρ).toNat*ie.size+0),none⟩),by simp[V.den,C.den,hk],?_⟩
  have hadd:(⟨kk,off,none⟩:Addr).add ((e.I ρ).toNat*ie.size)=⟨kk,off+((e.I ρ).toNat*ie.size+0),none⟩:=by rw[bG]; simp
  simp[execOp,hop,he,hq,Instr.indexAt,run_underlying hu,Instr.sureAddr,asIntOf,hr,hs,Sem.run_bind,hadd]
 ·exact g1.elim
theorem adh {j:J} {k0:IntKind} {sz c:Nat}:∀(n:Nat) (cs:List C) (l:E) (vs:List Value),colE k0 sz c n cs=some l→denL ρ j cs=some vs→∀m,m<n→vs[m*sz+c]? =some (.int k0 ((l.L ρ).getD m 0))
 | 0,cs,l,vs,_,_,m,hm=>absurd hm (by omega)
 | n+1,cs,l,vs,h,hd,m,hm=>by
   simp only[colE] at h
   split at h
   ·rename_i k' a t h1 h2
    split at h
    ·rename_i hk
     cases h
     cases m with
     | zero=>
       obtain⟨v,h3,h4⟩:=bO hd c _ h1
       rw[Nat.zero_mul,Nat.zero_add,h3,←h4,av hk]
       simp[C.den,E.L]
     | succ m=>
       have ih:=adh n _ t _ h2 (fl hd sz) m (by omega)
       rw[List.getElem?_drop] at ih
       rw[show(m+1)*sz+c=sz+(m*sz+c) by rw[Nat.succ_mul]; omega,ih]
       simp[E.L]
    ·cases h
   ·cases h
theorem pV {j:J} {e:E} {n sz:Nat} {cs:List C} {vs:List Value} (hd:denL ρ j cs=some vs) (h0:0≤e.I ρ) (h1:e.I ρ<(n:Int)):∀(m c:Nat) (ds:List C),uF e n sz cs c m=some ds→ds.length=m∧denL ρ j ds=some ((vs.drop ((e.I ρ).toNat*sz+c)).take m)
 | 0,c,ds,h=>by cases h; simp[denL]
 | m+1,c,ds,h=>by
   simp only[uF] at h
   split at h
   ·rename_i k0 a hc
    split at h
    ·rename_i l r h2 h3
     cases h
     obtain⟨e1,e2⟩:=pV hd h0 h1 m (c+1) r h3
     have e3:=adh n cs l vs h2 hd (e.I ρ).toNat (by omega)
     refine⟨by simp[e1],?_⟩
     simp only[denL,C.den,E.I,e2]
     have hlt:=(List.getElem?_eq_some_iff.1 e3).1
     rw[List.drop_eq_getElem_cons hlt,List.take_succ_cons,(List.getElem?_eq_some_iff.1 e3).2]
     rfl
    ·cases h
   ·cases h
theorem aas (hT:∀t i,(t,i)∈cx.ty→TIok P t i) {t:Nat} {x:Operand} {kw:Kw} (hop:o.op=.load t x) {b o0 n sz off:Nat} {e:E} (hx:vw.ev x=some (.one (.pe b o0 n sz e off))) {i:TI} (hi:ar t cx.ty=some i) {cs:List C} (hcs:vw.row b o0 (n*sz)=some cs) (hsz:off+i.size≤sz)
  (h:(decK (inR e n) (fun ok kw=>if ok then
      (match uF e n sz cs off i.size with
      | some ds=>if i.agg then k {val:=.agg ds,rd:=cf b o0 (n*sz)} kw else(match ds with
        | [d]=>k {val:=.one d,rd:=cf b o0 (n*sz)} kw
        | _=>.stuck 160)
      | none=>.stuck 161)
      else .stuck 162) kw).holds sp G ρ I) (hg:Good sp cx.sm ρ kw):Sound P sp ρ G I base cx vw o k kw:=by
 obtain⟨kw1,g1,q1,_,l1⟩:=aF _ _ _ h hg
 rw[afh] at g1
 split at g1
 ·rename_i hr
  rw[Bool.and_eq_true,decide_eq_true_eq,decide_eq_true_eq] at hr
  have ht:=hT _ _ (ak hi)
  have hrow:=vw.rowok _ _ _ _ hcs
  split at g1
  ·rename_i ds hds
   have cells:∀{j:J} {w:World} {kk:Nat},j.b b=some kk→RdOk ρ j w vw.ld (cf b o0 (n*sz))→∃us,denL ρ j ds=some us∧us.length=i.size∧∀(m:Nat) u,us[m]? =some u→w.cell? ⟨kk,o0+((e.I ρ).toNat*sz+off)+m,none⟩=some u:=by
    intro j w kk hk hrd
    obtain⟨vs,hd,-⟩:=cb (P:=P) (ρ:=ρ) hk (n*sz) o0 cs hrow w hrd ⟨kk,o0,none⟩ 0 #[] (fun m=>by rw[bG]; simp)
    obtain⟨e1,e2⟩:=pV hd hr.1 hr.2 i.size off ds hds
    refine⟨_,e2,by rw[aI e2,e1],fun m u hu=> ?_⟩
    rw[List.getElem?_take] at hu
    split at hu
    ·rw[List.getElem?_drop] at hu
     obtain⟨hl,hget⟩:=eY _ _ _ hrow
     have hlt:=(List.getElem?_eq_some_iff.1 hu).1
     rw[aI hd] at hlt
     obtain⟨c0,hc0⟩:∃c0,cs[(e.I ρ).toNat*sz+off+m]? =some c0:=⟨_,List.getElem?_eq_getElem hlt⟩
     have hld:=hget _ c0 hc0
     obtain⟨k',v,hk',hv,hcell⟩:=hrd (b,o0+((e.I ρ).toNat*sz+off+m)) (by
      have:∀(n o p:Nat),p<n→(b,o+p)∈cf b o n:=by
       intro n
       induction n with
       | zero=>intro o p hp; omega
       | succ n ih=>
         intro o p hp
         cases p with
         | zero=>simp[cf]
         | succ p=>simp only[cf,List.mem_cons]; exact .inr (by have:=ih (o+1) p (by omega); rwa [show o+(p+1)=o+1+p by omega])
      exact this _ _ _ (by omega)) c0 hld
     simp only at hk' hcell
     rw[hk] at hk'; cases hk'
     obtain⟨v',hv',hd'⟩:=bO hd _ c0 hc0
     rw[hv] at hd'; cases hd'
     rw[hv'] at hu; cases hu
     rw[Nat.add_assoc]
     exact hcell
    ·cases hu
   split at g1
   ·rename_i hagg
    refine⟨_,kw1,g1,q1,l1,OpOk.pure fun j a w _ hev hrd _ _=> ?_⟩
    obtain⟨kk,hk,he⟩:=aiI (hev x (by simp[hop,Op.operands]) _ hx)
    obtain⟨us,h1,h2,h3⟩:=cells hk hrd
    refine⟨.agg us.toArray,by simp[V.den,h1],?_⟩
    have hload:=dt (P:=P) (a:=⟨kk,o0+((e.I ρ).toNat*sz+off),none⟩) (w:=w) us 0 #[] (fun m u hu=>by rw[Nat.zero_add,bG]; exact h3 m u hu)
    rw[h2] at hload
    simp[execOp,hop,he,Instr.loadAt,Instr.sureAddr,Sem.run_bind,loadVar,ht.agg,hagg,ht.size,loadCells,hload]
   ·rename_i hagg
    split at g1
    ·rename_i d
     refine⟨_,kw1,g1,q1,l1,OpOk.pure fun j a w _ hev hrd _ _=> ?_⟩
     obtain⟨kk,hk,he⟩:=aiI (hev x (by simp[hop,Op.operands]) _ hx)
     obtain⟨us,h1,h2,h3⟩:=cells hk hrd
     simp only[denL] at h1
     cases hdd:d.den ρ j with
     | none=>rw[hdd] at h1; cases h1
     | some v=>
       rw[hdd] at h1; cases h1
       have hcell:=h3 0 v rfl
       rw[Nat.add_zero] at hcell
       have hagg':i.agg=false:=by simpa using hagg
       refine⟨v,hdd,?_⟩
       simp[execOp,hop,he,Instr.loadAt,Instr.sureAddr,Sem.run_bind,loadVar,ht.agg,hagg',load,Sem.run,hcell]
    ·exact g1.elim
  ·exact g1.elim
 ·exact g1.elim
def setV:Nat→List Value→List Value→List Value
 | off+1,x::xs,us=>x::setV off xs us
 | 0,x::xs,u::us=>u::setV 0 xs us
 | _,xs,_=>xs
theorem ee:∀(off:Nat) (xs us:List Value) (p:Nat),(setV off xs us)[p]? =if off≤p∧p<off+us.length∧p<xs.length then us[p-off]? else xs[p]?
 | off+1,x::xs,us,0=>by simp[setV]
 | off+1,x::xs,us,p+1=>by
   simp only[setV,List.getElem?_cons_succ,ee off xs us p,List.length_cons]
   by_cases h:off≤p∧p<off+us.length∧p<xs.length
   ·rw[if_pos h,if_pos (by omega)]; congr 1; omega
   ·rw[if_neg h,if_neg (by omega)]
 | 0,x::xs,u::us,0=>by simp[setV]
 | 0,x::xs,u::us,p+1=>by
   simp only[setV,List.getElem?_cons_succ,ee 0 xs us p,List.length_cons]
   by_cases h:0≤p∧p<0+us.length∧p<xs.length
   ·rw[if_pos h,if_pos (by omega)]; simp
   ·rw[if_neg h,if_neg (by omega)]
 | 0,x::xs,[],p=>by
   rw[if_neg (by simp)]
   rfl
 | 0,[],us,p=>by cases us<;>simp[setV]
 | off+1,[],us,p=>by simp[setV]
theorem bR:∀(off:Nat) (xs us:List Value),(setV off xs us).length=xs.length
 | off+1,x::xs,us=>by simp[setV,bR off xs us]
 | 0,x::xs,u::us=>by simp[setV,bR 0 xs us]
 | 0,x::xs,[]=>rfl
 | 0,[],us=>by cases us<;>rfl
 | off+1,[],us=>rfl
theorem sS {j:J} {c:E}:∀(off:Nat) (xs vc r:List C) (vs us:List Value),setI c off xs vc=some r→denL ρ j xs=some vs→denL ρ j vc=some us→denL ρ j r=some (if c.B ρ=true then setV off vs us else vs)
 | off+1,x::xs,vc,r,vs,us,h,h1,h2=>by
   simp only[setI,Option.map_eq_some_iff] at h
   obtain⟨r',h3,rfl⟩:=h
   simp only[denL] at h1
   cases hx:x.den ρ j with
   | none=>rw[hx] at h1; cases h1
   | some v=>
     cases hl:denL ρ j xs with
     | none=>rw[hx,hl] at h1; cases h1
     | some l=>
       rw[hx,hl] at h1; cases h1
       simp only[denL,hx,sS off xs vc r' l us h3 hl h2]
       split<;>simp[setV]
 | 0,xs,[],r,vs,us,h,h1,h2=>by
   cases h2
   have:r=xs:=by cases xs<;>simpa[setI] using h.symm
   subst this
   rw[h1]
   cases vs<;>simp[setV]
 | 0,x::xs,y::vc,r,vs,us,h,h1,h2=>by
   cases x<;>first | (simp only[setI] at h; cases h; done) | skip
   cases y<;>first | (simp only[setI] at h; cases h; done) | skip
   rename_i k a k' b
   simp only[setI] at h
   split at h
   ·rename_i hk
    rw[Option.map_eq_some_iff] at h
    obtain⟨r',h3,rfl⟩:=h
    simp only[denL,C.den] at h1 h2
    cases hl:denL ρ j xs with
    | none=>rw[hl] at h1; cases h1
    | some l=>
      cases hm:denL ρ j vc with
      | none=>rw[hm] at h2; cases h2
      | some m=>
        rw[hl] at h1; cases h1
        rw[hm] at h2; cases h2
        simp only[denL,C.den,E.I,sS 0 xs vc r' l m h3 hl hm]
        split<;>simp[setV,av hk]
   ·cases h
 | 0,[],y::vc,r,vs,us,h,h1,h2=>by simp[setI] at h
 | off+1,[],vc,r,vs,us,h,h1,h2=>by simp[setI] at h
theorem acM {j:J} {e:E} {off sz:Nat} {vc:List C} {us:List Value} (hu:denL ρ j vc=some us) (hsz:off+us.length≤sz) (h0:0≤e.I ρ):∀(n m0:Nat) (cs ds:List C) (vs:List Value),iteR e off sz vc m0 n cs=some ds→denL ρ j cs=some vs→vs.length=n*sz→
  denL ρ j ds=some (if m0≤(e.I ρ).toNat∧(e.I ρ).toNat<m0+n then setV (((e.I ρ).toNat-m0)*sz+off) vs us else vs)
 | 0,m0,cs,ds,vs,h,hd,hl=>by
   cases h
   rw[if_neg (by omega),hd]
 | n+1,m0,cs,ds,vs,h,hd,hl=>by
   simp only[iteR] at h
   split at h
   ·rename_i a b h1 h2
    cases h
    have e1:=sS off _ _ _ _ _ h1 (iX hd sz) hu
    have hl2:(vs.drop sz).length=n*sz:=by rw[List.length_drop,hl,Nat.succ_mul]; omega
    have e2:=acM hu hsz h0 n (m0+1) _ _ _ h2 (fl hd sz) hl2
    have hge:sz≤vs.length:=by rw[hl,Nat.succ_mul]; omega
    rw[gS e1 e2]
    congr 1
    have hB:(E.eq e (.lit (m0:Int))).B ρ=decide ((e.I ρ).toNat=m0):=by
     simp only[E.B,E.I]
     rw[Bool.eq_iff_iff]
     simp only[beq_iff_eq,decide_eq_true_eq]
     omega
    rw[hB]
    generalize (e.I ρ).toNat=M
    apply List.ext_getElem?
    intro p
    have tl:(vs.take sz).length=sz:=by rw[List.length_take]; omega
    by_cases hM:M=m0
    ·subst hM
     rw[if_pos (by simp),if_neg (by omega),if_pos (by omega),Nat.sub_self,Nat.zero_mul,Nat.zero_add,ee]
     by_cases hp:p<sz
     ·rw[List.getElem?_append_left (by rw[bR,tl]; exact hp),ee,tl,List.getElem?_take,if_pos hp]
      by_cases hq:off≤p∧p<off+us.length∧p<sz
      ·rw[if_pos hq,if_pos (by omega)]
      ·rw[if_neg hq,if_neg (by omega)]
     ·rw[List.getElem?_append_right (by rw[bR,tl]; omega),bR,tl,List.getElem?_drop,if_neg (by omega)]
      congr 1; omega
    ·rw[if_neg (by simpa using hM)]
     by_cases hr:m0+1≤M∧M<m0+1+n
     ·rw[if_pos hr,if_pos (by omega),ee]
      have hmul:(M-m0)*sz=sz+(M-(m0+1))*sz:=by
       rw[show M-m0=(M-(m0+1))+1 by omega,Nat.succ_mul]; omega
      by_cases hp:p<sz
      ·rw[List.getElem?_append_left (by rw[tl]; exact hp),List.getElem?_take,if_pos hp,if_neg (by omega)]
      ·rw[List.getElem?_append_right (by rw[tl]; omega),tl,ee,List.getElem?_drop,hl2]
       have hps:sz+(p-sz)=p:=by omega
       rw[hps]
       have hlen:vs.length=sz+n*sz:=by rw[hl,Nat.succ_mul]; omega
       by_cases hq:(M-(m0+1))*sz+off≤p-sz∧p-sz<(M-(m0+1))*sz+off+us.length∧p-sz<n*sz
       ·rw[if_pos hq,if_pos (by omega)]
        congr 1; omega
       ·rw[if_neg hq,if_neg (by omega)]
     ·rw[if_neg hr,if_neg (by omega),List.take_append_drop]
   ·cases h
def putA:Nat→List Value→Array Value→Array Value
 | _,[],c=>c
 | o,v::vs,c=>putA (o+1) vs (c.setIfInBounds o v)
theorem pz:∀(vs:List Value) (o:Nat) (c:Array Value) (i:Nat),(putA o vs c)[i]? =if o≤i∧i<o+vs.length∧i<c.size then vs[i-o]? else c[i]?
 | [],o,c,i=>by rw[if_neg (by simp only[List.length_nil]; omega)]; rfl
 | v::vs,o,c,i=>by
   simp only[putA,pz vs (o+1),Array.size_setIfInBounds,List.length_cons]
   rcases Nat.lt_trichotomy i o with h | h | h
   ·rw[if_neg (by omega),if_neg (by omega),Array.getElem?_setIfInBounds,if_neg (by omega)]
   ·subst h
    rw[if_neg (by omega),Array.getElem?_setIfInBounds,if_pos rfl]
    by_cases hs:i<c.size
    ·rw[if_pos hs,if_pos (by omega)]; simp
    ·rw[if_neg hs,if_neg (by omega),Array.getElem?_eq_none (by omega)]
   ·by_cases hq:o+1≤i∧i<o+1+vs.length∧i<c.size
    ·rw[if_pos hq,if_pos (by omega),show i-o=(i-(o+1))+1 by omega]; rfl
    ·rw[if_neg hq,if_neg (by omega),Array.getElem?_setIfInBounds,if_neg (by omega)]
theorem jg {j:J} {b kk:Nat} (hk:j.b b=some kk):∀(cs:List C) (o:Nat) (vs:List Value) (w:World),denL ρ j cs=some vs→nW ρ j (dd b o cs) w (mapBlock w kk (putA o vs))∧∀w',nW ρ j (dd b o cs) w w'→w'=mapBlock w kk (putA o vs)
 | [],o,vs,w,hd=>by
   cases hd
   have e:mapBlock w kk (putA o [])=w:=Go.Sort.mapBlock_id w kk _ (fun c e fr _=>rfl)
   rw[e]
   exact⟨rfl,fun w' h=>h⟩
 | c::cs,o,vs,w,hd=>by
   simp only[denL] at hd
   cases hc:c.den ρ j with
   | none=>rw[hc] at hd; cases hd
   | some v=>
     cases hl:denL ρ j cs with
     | none=>rw[hc,hl] at hd; cases hd
     | some l=>
       rw[hc,hl] at hd; cases hd
       obtain⟨i1,i2⟩:=jg hk cs (o+1) l (w.setCell ⟨kk,o,none⟩ v) hl
       have e:mapBlock (w.setCell ⟨kk,o,none⟩ v) kk (putA (o+1) l)=mapBlock w kk (putA o (v::l)):=by
        rw[setCell_eq,mapBlock_mapBlock]
        rfl
       rw[e] at i1 i2
       refine⟨⟨kk,v,hk,hc,i1⟩,?_⟩
       rintro w' ⟨k2,v2,g1,g2,g3⟩
       rw[hk] at g1; cases g1
       rw[hc] at g2; cases g2
       exact i2 w' g3
theorem rz {b:Nat}:∀(n o p:Nat),p<n→(b,o+p)∈cf b o n
 | 0,_,_,h=>absurd h (by omega)
 | n+1,o,0,_=>by simp[cf]
 | n+1,o,p+1,h=>by
   simp only[cf,List.mem_cons]
   have:=rz (b:=b) n (o+1) p (by omega)
   rw[show o+1+p=o+(p+1) by omega] at this
   exact .inr this
theorem rx {b:Nat}:∀(cs:List C) (o p:Nat) (c:C),cs[p]? =some c→(b,o+p,c)∈dd b o cs
 | [],_,_,_,h=>by simp at h
 | x::cs,o,0,c,h=>by simp at h; subst h; simp[dd]
 | x::cs,o,p+1,c,h=>by
   simp only[dd,List.mem_cons]
   have:=rx (b:=b) cs (o+1) p c (by simpa using h)
   rw[show o+1+p=o+(p+1) by omega] at this
   exact .inr this
theorem vY {b:Nat}:∀(cs:List C) (o:Nat) (q:Nat×Nat×C),q∈dd b o cs→q.1=b∧∃p,p<cs.length∧q.2.1=o+p
 | [],_,q,h=>by simp[dd] at h
 | x::cs,o,q,h=>by
   simp only[dd,List.mem_cons] at h
   rcases h with rfl | h
   ·exact⟨rfl,0,by simp,rfl⟩
   ·obtain⟨h1,p,h2,h3⟩:=vY cs (o+1) q h
    exact⟨h1,p+1,by simp; omega,by omega⟩
theorem xD (hT:∀t i,(t,i)∈cx.ty→TIok P t i) {t:Nat} {x y:Operand} {kw:Kw} (hop:o.op=.store t x y) {b o0 n sz off:Nat} {e:E} (hx:vw.ev x=some (.one (.pe b o0 n sz e off))) {v:V} (hy:vw.ev y=some v) {i:TI} (hi:ar t cx.ty=some i) {cs:List C} (hcs:vw.row b o0 (n*sz)=some cs)
  (hf:v.flat=true) (hn:v.cells.length=i.size) (hsz:off+i.size≤sz) (hcl:cs.length=n*sz)
  (h:(decK (inR e n) (fun ok kw=>if ok then
      (match iteR e off sz v.cells 0 n cs with
      | some ds=>if ds.all C.solid&&(cs.all C.solid&&v.cells.all C.solid) then k {val:=.one .undef,rd:=cf b o0 (n*sz),wr:=dd b o0 ds} kw else .stuck 165
      | none=>.stuck 166)
      else .stuck 167) kw).holds sp G ρ I) (hg:Good sp cx.sm ρ kw):Sound P sp ρ G I base cx vw o k kw:=by
 obtain⟨kw1,g1,q1,_,l1⟩:=aF _ _ _ h hg
 rw[afh] at g1
 split at g1
 ·rename_i hr
  rw[Bool.and_eq_true,decide_eq_true_eq,decide_eq_true_eq] at hr
  have ht:=hT _ _ (ak hi)
  have hrow:=vw.rowok _ _ _ _ hcs
  split at g1
  ·rename_i ds hds
   split at g1
   ·rename_i hsol
    simp only[Bool.and_eq_true] at hsol
    refine⟨_,kw1,g1,q1,l1,fun j a w _ hev hrd hwr _ _ K Q hK=> ?_⟩
    obtain⟨kk,hk,he⟩:=aiI (hev x (by simp[hop,Op.operands]) _ hx)
    have hd:=V.cells_ok (hev y (by simp[hop,Op.operands]) v hy) hf
    obtain⟨vs,hvs,-⟩:=cb (P:=P) (ρ:=ρ) hk (n*sz) o0 cs hrow w hrd ⟨kk,o0,none⟩ 0 #[] (fun m=>by rw[bG]; simp)
    have hul:(a.eval y).cells.toList.length=i.size:=by rw[aI hd,hn]
    have hvl:vs.length=n*sz:=by rw[aI hvs,hcl]
    have hnew:=acM hd (by rw[hul]; exact hsz) hr.1 n 0 cs ds vs hds hvs hvl
    rw[if_pos (by omega),Nat.sub_zero] at hnew
    generalize hM:(e.I ρ).toNat=M at *
    have hMn:M<n:=by omega
    have hMs:M*sz+off+i.size≤n*sz:=by
     have:(M+1)*sz≤n*sz:=Nat.mul_le_mul_right sz hMn
     rw[Nat.succ_mul] at this
     omega
    have old:∀p,p<n*sz→w.cell? ⟨kk,o0+p,none⟩=vs[p]? :=by
     intro p hp
     obtain⟨hl,hget⟩:=eY _ _ _ hrow
     obtain⟨c0,hc0⟩:∃c0,cs[p]? =some c0:=⟨_,List.getElem?_eq_getElem (by omega)⟩
     obtain⟨k',v',hk',hv',hcell⟩:=hrd (b,o0+p) (rz _ _ _ hp) c0 (hget _ c0 hc0)
     simp only at hk' hcell
     rw[hk] at hk'; cases hk'
     obtain⟨v2,hv2,hd2⟩:=bO hvs p c0 hc0
     rw[hv'] at hd2; cases hd2
     rw[hcell,hv2]
    have hdl:ds.length=n*sz:=by
     have:=aI hnew
     rw[bR] at this
     omega
    have hw2:WrOk j w (dd b (o0+(M*sz+off)) v.cells):=by
     intro q hq
     obtain⟨e1,p,e2,e3⟩:=vY _ _ _ hq
     obtain⟨c1,hc1⟩:∃c1,ds[M*sz+off+p]? =some c1:=⟨_,List.getElem?_eq_getElem (by omega)⟩
     obtain⟨k3,u3,f1,f2,f3⟩:=hwr _ (rx ds o0 _ c1 hc1)
     refine⟨k3,u3,by rw[e1]; exact f1,?_,?_⟩
     ·rw[e3,Nat.add_assoc]; exact f2
     ·rw[e3,Nat.add_assoc]; exact f3
    obtain⟨w',h1,h2⟩:=dD (P:=P) hk ⟨kk,o0+(M*sz+off),none⟩ v.cells (o0+(M*sz+off)) 0 _ w (fun m=>by rw[bG]; simp) hd hsol.2.2 hw2
    have e1:=(jg hk v.cells _ _ w hd).2 w' h1
    have e2:=(jg hk ds o0 _ w hnew).1
    have e3:mapBlock w kk (putA (o0+(M*sz+off)) (a.eval y).cells.toList)=mapBlock w kk (putA o0 (setV (M*sz+off) vs (a.eval y).cells.toList)):=by
     refine mapBlock_congr w kk _ _ fun c ec fr hc=> ?_
     have oldc:∀p,p<n*sz→c[o0+p]? =vs[p]? :=fun p hp=>by
      have:=old p hp
      rw[←this]
      simp[World.cell?,hc]
     apply Array.ext_getElem?
     intro q
     rw[pz,pz,bR,hvl]
     by_cases hq:o0≤q∧q<o0+n*sz∧q<c.size
     ·rw[if_pos hq,ee]
      by_cases hq2:M*sz+off≤q-o0∧q-o0<M*sz+off+(a.eval y).cells.toList.length∧q-o0<vs.length
      ·rw[if_pos hq2,if_pos (by omega)]
       congr 1; omega
      ·rw[if_neg hq2,if_neg (by omega),←oldc (q-o0) (by omega)]
       congr 1; omega
     ·rw[if_neg hq,if_neg (by omega)]
    rw[e3] at e1
    have hsz':(a.eval y).cells.size=i.size:=by rw[←Array.length_toList]; exact hul
    refine yY (w':=w') ?_ (hK _ j w' rfl ⟨rfl,w,Ext.refl w,by rw[e1]; exact e2⟩)
    simp[execOp,hop,he,Instr.storeAt,Instr.sureAddr,Sem.run_bind,storeVar,ht.size,hsz',h2]
   ·exact g1.elim
  ·exact g1.elim
 ·exact g1.elim
end
end Go.Proofs.YtfkhblmeioiciaaGreatDoor
set_option linter.unusedVariables false
set_option linter.unusedSimpArgs false
namespace Go.Proofs.YtfkhblmeioiciaaGreatDoor
open Go.RowKit
section
variable {P:Program} {sp:Spec} {ρ:Env} {G:Env→E→Prop} {I:Nat→List Dt→Prop} {base:Nat} {cx:Cx} {vw:Vw} {o:Oper} {k:Eff→Kw→Tr}
theorem ai2 {f:E→E→E} {g:Int→Int→Int} (hf:∀a b,(f a b).I ρ=g (a.I ρ) (b.I ρ)) {m2:Value→Value→Sem Value} {k0:IntKind} (hm:∀x y w,(m2 (.int k0 x) (.int k0 y)).run P w=.ok (.int k0 (g x y)) w) {j:J}:
  ∀(l:List V) (e e':E) (us:List Value),mmK f k0 e l=some e'→(∀(i:Nat) x u,l[i]? =some x→us[i]? =some u→x.den ρ j=some u)→us.length=l.length→∀w,(us.foldlM m2 (.int k0 (e.I ρ))).run P w=.ok (.int k0 (e'.I ρ)) w
 | [],e,e',us,h,hu,hl,w=>by
   cases h
   cases us with
   | nil=>simp
   | cons _ _=>cases hl
 | v::l,e,e',us,h,hu,hl,w=>by
   cases us with
   | nil=>cases hl
   | cons u us=>
     cases v with
     | one c=>
       cases c with
       | int kd x=>
         simp only[mmK] at h
         split at h
         ·rename_i hk
          have:=av hk
          subst this
          have h1:=bH (hu 0 _ u rfl rfl)
          subst h1
          have h2:=ai2 hf hm l (f e x) e' us h (fun i y u hy hu'=>hu (i+1) y u (by simpa using hy) (by simpa using hu')) (by simpa using hl) w
          rw[hf] at h2
          simp only[List.foldlM_cons,Sem.run_bind,hm,Result.andThen_ok,h2]
         ·cases h
       | _=>simp[mmK] at h
     | _=>simp[mmK] at h
theorem cR {c:Call} {a:Act}:(c.args.map a.eval).toList=c.args.toList.map a.eval:=Array.toList_map ..
theorem afO (mx:Bool) {c:Call} {kw:Kw} (hop:o.op=.call c) (hc:c.callee=.builtin (if mx then .max else .min)) {k0:IntKind} {e e':E} {l:List V} (hl:evL vw.ev c.args.toList=some (.one (.int k0 e)::l)) (he:mmK (if mx then act else acs) k0 e l=some e')
  (h:(k {val:=.one (.int k0 e')} kw).holds sp G ρ I) (hg:Good sp cx.sm ρ kw):Sound P sp ρ G I base cx vw o k kw:=by
 refine⟨_,kw,h,hg,.refl _,OpOk.pure fun j a w _ hev _ _ _=>⟨.int k0 (e'.I ρ),rfl,?_⟩⟩
 obtain⟨h1,h2⟩:=gk (j:=j) (a:=a) hl (fun x hx=>hev x (by simp[hop,Op.operands,Call.operands]; exact .inr (by simpa using hx)))
 obtain⟨u,us,hus⟩:∃u us,c.args.toList.map a.eval=u::us:=by
  cases hm:c.args.toList.map a.eval with
  | nil=>rw[hm] at h2; cases h2
  | cons u us=>exact⟨u,us,rfl⟩
 rw[hus] at h1 h2
 have hu:=bH (h1 0 _ u rfl rfl)
 subst hu
 have hlist:(c.args.map a.eval).toList=.int k0 (e.I ρ)::us:=by rw[cR,hus]
 cases mx with
 | true=>
   have h3:=ai2 (P:=P) (ρ:=ρ) (f:=act) (g:=max) (ai4 ρ) (m2:=Builtin.max2) (k0:=k0) (fun x y w=>by simp[Builtin.max2,mA.2]) l e e' us (by simpa using he) (fun i x u hx hu=>h1 (i+1) x u (by simpa using hx) (by simpa using hu)) (by simpa using h2) w
   simp only[execOp,hop,resolve,hc,if_true,Sem.run_bind,Sem.run_pure,Result.andThen_ok,invoke,builtin,Builtin.max_,hlist,h3]
 | false=>
   have h3:=ai2 (P:=P) (ρ:=ρ) (f:=acs) (g:=min) (ai3 ρ) (m2:=Builtin.min2) (k0:=k0) (fun x y w=>by simp[Builtin.min2,mA.1]) l e e' us (by simpa using he) (fun i x u hx hu=>h1 (i+1) x u (by simpa using hx) (by simpa using hu)) (by simpa using h2) w
   simp only[execOp,hop,resolve,hc,Bool.false_eq_true,if_false,Sem.run_bind,Sem.run_pure,Result.andThen_ok,invoke,builtin,Builtin.min_,hlist,h3]
theorem alE {vk:List VK} {ks:List CK} (hv:Vk ρ vk) (hr:(∀(n:Nat) k,ks[n]? =some (.int k)→inK k (ρ.i (vk.length+n))=true)∧∀(n:Nat) k ty,ks[n]? =some (.sl k ty)→RowsIn k (ρ.l (vk.length+n))):Vk ρ (vk++ks.map sx):=by
 constructor
 ·intro n kd h
  rcases Nat.lt_or_ge n vk.length with hlt | hge
  ·rw[List.getElem?_append_left hlt] at h
   exact hv.i n kd h
  ·rw[List.getElem?_append_right hge,List.getElem?_map,Option.map_eq_some_iff] at h
   obtain⟨c,hc,hk⟩:=h
   cases c<;>simp only[sx] at hk<;>first | cases hk | skip
   have:=hr.1 _ _ hc
   rwa [show vk.length+(n-vk.length)=n by omega] at this
 ·intro n kd h
  rcases Nat.lt_or_ge n vk.length with hlt | hge
  ·rw[List.getElem?_append_left hlt] at h
   exact hv.l n kd h
  ·rw[List.getElem?_append_right hge,List.getElem?_map,Option.map_eq_some_iff] at h
   obtain⟨c,hc,hk⟩:=h
   cases c<;>simp only[sx] at hk<;>first | cases hk | skip
   have:=hr.2 _ _ _ hc
   rwa [show vk.length+(n-vk.length)=n by omega] at this
theorem ac8 {vk:List VK} (hv:Vk ρ vk) {rw:Nat→Option RowOb} {k:CK} {c:C} {t e:E} (h:encC vk rw k c t=some e):ckIn k (e.D ρ) (t.D ρ):=by
 unfold encC at h
 split at h
 ·split at h
  ·rename_i hk
   cases h
   simp only[Bool.and_eq_true] at hk
   exact⟨_,rfl,E.rng_ok hv _ hk.2⟩
  ·cases h
 ·cases h; exact⟨_,rfl⟩
 ·split at h
  ·cases h; exact rfl
  ·cases h
 ·split at h
  ·cases h; exact rfl
  ·cases h
 ·rw[Option.map_eq_some_iff] at h
  obtain⟨l,hl,rfl⟩:=h
  refine⟨_,rfl,?_⟩
  unfold fS at hl
  split at hl
  ·split at hl
   ·split at hl
    ·rename_i hq
     simp only[Bool.and_eq_true] at hq
     cases hl
     exact E.lok_ok hv _ hq.2.2
    ·cases hl
   ·cases hl
  ·cases hl; intro r hr; cases hr
  ·cases hl
 ·cases h; exact rfl
 ·cases h; exact rfl
 ·split at h
  ·split at h
   ·rename_i hq
    simp only[Bool.and_eq_true] at hq
    cases h
    exact⟨rfl,hq.2.2⟩
   ·cases h
  ·cases h
 ·cases h
theorem xb {vk:List VK} (hv:Vk ρ vk) {rw:Nat→Option RowOb}:∀{ks:List CK} {cs:List C} {t e:E},sj vk rw ks cs t=some e→yC ks (e.D ρ) (t.D ρ)
 | [],[],t,e,h=>by cases h; exact rfl
 | k::ks,c::cs,t,e,h=>by
   simp only[sj,Option.bind_eq_some_iff] at h
   obtain⟨e',h1,h2⟩:=h
   exact⟨_,ac8 hv h2,xb hv h1⟩
theorem uD {vk:List VK} (hv:Vk ρ vk) {rw:Nat→Option RowOb} {ks:List CK} {cs:List C} {t e:E} (h:encL vk rw ks cs t=some e):yC ks (e.D ρ) (t.D ρ):=xb hv (si h)
theorem jA {j:J} {l e:E}:∀(ks:List CE) (c0:Nat),∃vs,denL ρ j (jB l e c0 ks)=some vs∧vs.length=ks.length∧∀(m:Nat) ck,ks[m]? =some ck→vs[m]? =some (fq ck (gt (l.R ρ) (e.I ρ) (c0+m)))
 | [],c0=>⟨[],rfl,rfl,fun m ck h=>by simp at h⟩
 | k::ks,c0=>by
   obtain⟨vs,h1,h2,h3⟩:=jA (j:=j) (l:=l) (e:=e) ks (c0+1)
   refine⟨fq k (gt (l.R ρ) (e.I ρ) c0)::vs,by simp only[jB,denL,pt,h1],by simp[h2],fun m ck h=> ?_⟩
   cases m with
   | zero=>simp at h; subst h; simp
   | succ m=>
     have:=h3 m ck (by simpa using h)
     simpa[Nat.add_assoc,Nat.add_comm 1 m] using this
theorem alc {vk:List VK} (hv:Vk ρ vk) {ks:List CE} {ty id z:Nat} {e t x:E} (h:elE vk vw ks id z e t=some x):ckIn (.el ks ty) (x.D ρ) (t.D ρ):=by
 unfold elE at h
 split at h
 ·rename_i r hr
  split at h
  ·rw[Option.map_eq_some_iff] at h
   obtain⟨q,hq,rfl⟩:=h
   obtain⟨vs,h1,_⟩:=jA (ρ:=ρ) (j:=⟨fun _=>none,fun _=>none,fun _=>none,Gh.zero⟩) (l:=r.l) (e:=e) ks 0
   exact⟨q.L ρ,rfl,(jz hv hq h1).2⟩
  ·cases h
 ·cases h
theorem alb {vk:List VK} (hv:Vk ρ vk) {j:J} {w:World} {ks:List CE} {ty id z:Nat} {e t x:E} (hrr:RrOk ρ base j w vw.rw [id]) (hin:∀r,vw.sw id=some r→(inB e r.l).B ρ=true) (h:elE vk vw ks id z e t=some x) {u:Value} (hu:(V.one (.ep id z e 0)).den ρ j=some u):su w (.el ks ty) (x.D ρ) u (t.D ρ):=by
 unfold elE at h
 split at h
 ·rename_i r hr
  split at h
  ·rename_i hq
   rw[Option.map_eq_some_iff] at h
   obtain⟨q,hx,rfl⟩:=h
   simp only[Bool.and_eq_true] at hq
   have hks:=bA hq.1
   have hz:=Nat.eq_of_beq_eq_true hq.2
   subst hks hz
   obtain⟨s,hs,hok⟩:=hrr.sl id (by simp) r hr
   obtain⟨a,ha,rfl⟩:=afs hs hu
   obtain⟨vs,h1,h2,h3⟩:=jA (ρ:=ρ) (j:=j) (l:=r.l) (e:=e) r.ks 0
   obtain⟨h4,h5⟩:=jz hv hx h1
   have hb:=hin r hr
   rw[afj] at hb
   simp only[Bool.and_eq_true,decide_eq_true_eq] at hb
   have hpos:0<s.n:=by have:=hok.n; omega
   have hc:s.c≠0:=by have:=hok.rd.2.1; omega
   refine⟨q.L ρ,_,rfl,rfl,h5,hok.lt _ (aZ (mP hc ?_)),fun c u hcu=> ?_⟩
   ·simp only[SV.v,Value.ownBlock,ha]
    unfold Addr.add
    split<;>rfl
   ·have hfl:flat r.ks [q.L ρ]=vs:=by rw[h4]; simp[flat]
    rw[hfl] at hcu
    have hlt:c<r.ks.length:=by rw[←h2]; exact(List.getElem?_eq_some_iff.1 hcu).1
    have hck:=List.getElem?_eq_getElem hlt
    have h6:=h3 c _ hck
    rw[hcu] at h6
    cases h6
    rw[Nat.zero_add,bU,Nat.add_zero]
    exact hok.rd.2.2.2.2 a ha _ _ (kP hck hok.rows.row (by omega))
  ·cases h
 ·cases h
theorem afk {x:V} {xs:List V} (h:(inA vw (x::xs)).B ρ=true):(inA vw xs).B ρ=true∧∀id z e,x=.one (.ep id z e 0)→∀r,vw.sw id=some r→(inB e r.l).B ρ=true:=by
 by_cases hx:∃id z e,x=.one (.ep id z e 0)
 ·obtain⟨id,z,e,rfl⟩:=hx
  simp only[inA] at h
  split at h
  ·rename_i r hr
   rw[fj,Bool.and_eq_true] at h
   refine⟨h.2,fun id' z' e' he r' hr'=> ?_⟩
   cases he
   rw[hr] at hr'
   cases hr'
   exact h.1
  ·rename_i hr
   refine⟨h,fun id' z' e' he r' hr'=> ?_⟩
   cases he
   rw[hr] at hr'
   cases hr'
 ·have e:inA vw (x::xs)=inA vw xs:=by
   cases x with
   | one c=>cases c with
     | ep id z e o=>cases o with
       | zero=>exact(hx ⟨_,_,_,rfl⟩).elim
       | succ o=>rfl
     | _=>rfl
   | _=>rfl
  rw[e] at h
  exact⟨h,fun id z e he=>(hx ⟨_,_,_,he⟩).elim⟩
theorem ada {vk:List VK} (hv:Vk ρ vk):∀{ss:List Sh} {xs:List V} {e:E},encA vk vw ss xs=some e→ady ss (e.D ρ)
 | [],[],e,h=>by cases h; exact rfl
 | s::ss,x::xs,e,h=>by
   simp only[encA,Option.bind_eq_some_iff] at h
   obtain⟨e',h1,h2⟩:=h
   refine⟨e'.D ρ,?_,ada hv h1⟩
   unfold encV at h2
   split at h2
   ·exact uD hv h2
   ·exact⟨_,alc hv h2,rfl⟩
   ·exact⟨_,ac8 hv h2,rfl⟩
   ·split at h2
    ·rw[Option.bind_eq_some_iff] at h2
     obtain⟨cs,_,h2⟩:=h2
     exact uD hv h2
    ·cases h2
   ·rw[Option.bind_eq_some_iff] at h2
    obtain⟨cs,_,h2⟩:=h2
    split at h2
    ·exact uD hv h2
    ·cases h2
   ·cases h2
theorem ac7 {vk:List VK} (hv:Vk ρ vk) {j:J} {w:World} {k:CK} {c:C} {t e:E} (hrr:RrOk ρ base j w vw.rw (cW [c])) (hd:k=.any→∃v,c.den ρ j=some v) (h:encC vk vw.tw k c t=some e):∃v,c.den ρ j=some v∧su w k (e.D ρ) v (t.D ρ):=by
 unfold encC at h
 split at h
 ·split at h
  ·rename_i hk
   cases h
   simp only[Bool.and_eq_true] at hk
   refine⟨_,rfl,_,rfl,?_,E.rng_ok hv _ hk.2⟩
   rw[av hk.1]
  ·cases h
 ·cases h; exact⟨_,rfl,_,rfl,rfl⟩
 ·split at h
  ·rename_i hg
   cases h
   refine⟨_,rfl,rfl,?_⟩
   rw[Nat.eq_of_beq_eq_true hg]
  ·cases h
 ·split at h
  ·rename_i hg
   cases h
   simp only[Bool.and_eq_true] at hg
   refine⟨_,rfl,rfl,?_⟩
   rw[av hg.1,gZ hg.2]
   rfl
  ·cases h
 ·rw[Option.map_eq_some_iff] at h
  obtain⟨l,hl,rfl⟩:=h
  unfold fS at hl
  split at hl
  ·rename_i id
   split at hl
   ·rename_i r hr
    split at hl
    ·rename_i hq
     simp only[Bool.and_eq_true] at hq
     cases hl
     obtain⟨hrw,hkd⟩:=Vw.tw_some hr
     obtain⟨s,hs,hok,hz⟩:=hrr id (by simp[cW]) r hrw
     have hks:=bA hq.1
     subst hks
     refine⟨s.v,by simp[C.den,hs],_,s,rfl,rfl,?_,?_,hok.rows,fun k hk=>hok.lt k (aZ hk)⟩
     ·rcases bk r.ks with⟨_,h1⟩ | ⟨_,h1⟩
      ·exact(hok.2.2 (hkd.trans h1)).n
      ·exact(hok.1 (hkd.trans h1)).n
     ·unfold TRow
      rcases bk r.ks with⟨_,h1⟩ | ⟨_,h1⟩
      ·rw[h1]
       exact(hok.2.2 (hkd.trans h1)).told hz
      ·rw[h1]
       exact(hok.1 (hkd.trans h1)).rd
    ·cases hl
   ·cases hl
  ·cases hl
   refine⟨_,rfl,[],⟨none,0,0,[]⟩,rfl,rfl,rfl,TRow.nil,⟨fun r hr=>(by cases hr),by simp⟩,fun k hk=>(by cases hk)⟩
  ·cases hl
 ·cases h; exact⟨_,rfl,rfl,rfl⟩
 ·cases h
  obtain⟨v,hv⟩:=hd rfl
  exact⟨v,hv,rfl⟩
 ·rename_i L id
  split at h
  ·rename_i r hr
   split at h
   ·rename_i hq
    simp only[Bool.and_eq_true] at hq
    cases h
    obtain⟨hrw,hkd⟩:=Vw.tw_some hr
    obtain⟨s,hs,hok,hz⟩:=hrr id (by simp[cW]) r hrw
    have hks:=bA hq.1.1
    subst hks
    obtain⟨hR,hrows,hp,hk2⟩:=tZ (ρ:=ρ) hq.2.2
    have hl:r.l.R ρ=L:=by
     rcases(Bool.or_eq_true _ _).mp hq.2.1 with h1 | h1
     ·exact(congrArg (E.R ρ) (E.same_eq h1)).trans hR
     ·rw[E.same_eq h1]
      exact akL (by have:=hq.2.2; simp only[rlOk,Bool.and_eq_true] at this; exact this.1)
    have hso:=hok.1 (hkd.trans hk2)
    refine⟨s.v,by simp[C.den,hs],rfl,hq.2.2,s,rfl,?_,?_,fun k hk=>hok.lt k (aZ hk)⟩
    ·rw[←hl]; exact hso.n
    ·unfold TRow
     rw[hk2,←hl]
     exact hso.rd
   ·cases h
  ·cases h
 ·cases h
theorem RrOk.mono {j:J} {w:World} {rw:Nat→Option RowOb} {l l':List Nat} (h:RrOk ρ base j w rw l) (hs:∀x∈l',x∈l):RrOk ρ base j w rw l':=fun id hid r hr=>h id (hs id hid) r hr
theorem ni {c:C} {cs:List C}:(∀x∈cW [c],x∈cW (c::cs))∧∀x∈cW cs,x∈cW (c::cs):=by
 cases c<;>simp[cW]<;>intro x hx<;>exact .inr hx
theorem wZ {vk:List VK} (hv:Vk ρ vk) {j:J} {w:World}:∀{ks:List CK} {cs:List C} {t e:E},RrOk ρ base j w vw.rw (cW cs)→(∀c∈cs,CK.any∈ks→∃v,c.den ρ j=some v)→sj vk vw.tw ks cs t=some e→∃vs,denL ρ j cs=some vs∧dl w ks (e.D ρ) vs (t.D ρ)
 | [],[],t,e,_,_,h=>by cases h; exact⟨[],rfl,rfl,rfl⟩
 | k::ks,c::cs,t,e,hrr,hd,h=>by
   simp only[sj,Option.bind_eq_some_iff] at h
   obtain⟨e',h1,h2⟩:=h
   obtain⟨vs,h3,h4⟩:=wZ hv (hrr.mono ni.2) (fun c hc ha=>hd c (List.mem_cons_of_mem _ hc) (List.mem_cons_of_mem _ ha)) h1
   obtain⟨v,h5,h6⟩:=ac7 hv (hrr.mono ni.1) (fun e=>hd c List.mem_cons_self (by rw[e]; exact List.mem_cons_self)) h2
   exact⟨v::vs,by simp[denL,h3,h5],v,vs,_,rfl,h6,h4⟩
theorem uC {vk:List VK} (hv:Vk ρ vk) {j:J} {w:World} {ks:List CK} {cs:List C} {t e:E} (hrr:RrOk ρ base j w vw.rw (cW cs)) (hd:∀c∈cs,CK.any∈ks→∃v,c.den ρ j=some v) (h:encL vk vw.tw ks cs t=some e):∃vs,denL ρ j cs=some vs∧dl w ks (e.D ρ) vs (t.D ρ):=wZ hv hrr hd (si h)
theorem nz {j:J} {w:World} {b kk:Nat} (hj:j.b b=some kk):∀{n off:Nat} {cs:List C},eZ vw.ld b off n=some cs→RdOk ρ j w vw.ld (cf b off n)→cs.length=n∧∃vs,denL ρ j cs=some vs∧∀(m:Nat) u,vs[m]? =some u→w.cell? ⟨kk,off+m,none⟩=some u
 | 0,off,cs,h,_=>by cases h; exact⟨rfl,[],rfl,fun m u hu=>by simp at hu⟩
 | n+1,off,cs,h,hrd=>by
   simp only[eZ] at h
   cases hc:vw.ld b off with
   | none=>rw[hc] at h; cases h
   | some c=>
     cases hl:eZ vw.ld b (off+1) n with
     | none=>rw[hc,hl] at h; cases h
     | some l=>
       rw[hc,hl] at h; cases h
       obtain⟨k',v,h1,h2,h3⟩:=hrd (b,off) (by simp[cf]) c hc
       simp only at h1 h3
       rw[hj] at h1; cases h1
       obtain⟨e0,vs,e1,e2⟩:=nz hj hl (fun p hp=>hrd p (by simp[cf]; exact .inr hp))
       refine⟨by simp[e0],v::vs,by simp[denL,h2,e1],fun m u hu=> ?_⟩
       cases m with
       | zero=>simp at hu; subst hu; exact h3
       | succ m=>
         have:=e2 m u (by simpa using hu)
         rwa [show off+(m+1)=off+1+m by omega]
theorem ac9 {vk:List VK} (hv:Vk ρ vk) {j:J} {w:World}:∀{ss:List Sh} {xs:List V} {e:E},RrOk ρ base j w vw.rw (dY vw ss xs)→RdOk ρ j w vw.ld (pZ ss xs)→FbOk sp.hw ρ j w vw.fb→encA vk vw ss xs=some e→(inA vw xs).B ρ=true→∀us:List Value,(∀(i:Nat) x u,xs[i]? =some x→us[i]? =some u→x.den ρ j=some u)→us.length=xs.length→jj w ss (e.D ρ) us
 | [],[],e,_,_,_,h,_,us,hu,hl=>by
   cases h
   cases us with
   | nil=>exact⟨rfl,rfl⟩
   | cons _ _=>cases hl
 | s::ss,x::xs,e,hrr,hrd,hfb,h,hin,us,hu,hl=>by
   obtain⟨hin1,hin2⟩:=afk hin
   simp only[encA,Option.bind_eq_some_iff] at h
   obtain⟨e',h1,h2⟩:=h
   cases us with
   | nil=>cases hl
   | cons u us=>
     have h7:=hu 0 x u rfl rfl
     have tail:RrOk ρ base j w vw.rw (dY vw ss xs)→RdOk ρ j w vw.ld (pZ ss xs)→jj w ss (e'.D ρ) us:=fun a b=>
      ac9 hv a b hfb h1 hin1 us (fun i x u hx hu'=>hu (i+1) x u (by simpa using hx) (by simpa using hu')) (by simpa using hl)
     unfold encV at h2
     split at h2
     ·rename_i ks cs
      have hrr':RrOk ρ base j w vw.rw (cW cs++dY vw ss xs):=hrr
      have hcd:∀c∈cs,CK.any∈ks→∃v,c.den ρ j=some v:=fun c hc _=>by
       simp only[V.den,Option.map_eq_some_iff] at h7
       obtain⟨vs,h8,_⟩:=h7
       obtain⟨i,hi⟩:=List.getElem?_of_mem hc
       obtain⟨v,_,hv⟩:=bO h8 i c hi
       exact⟨v,hv⟩
      obtain⟨vs,h3,h4⟩:=uC hv (hrr'.mono (fun x hx=>List.mem_append_left _ hx)) hcd h2
      simp only[V.den,h3,Option.map_some,Option.some.injEq] at h7
      exact⟨vs,us,_,by rw[h7],h4,tail (hrr'.mono (fun x hx=>List.mem_append_right _ hx)) hrd⟩
     ·rename_i ks ty id z e0
      have hrr':RrOk ρ base j w vw.rw (cW [.ep id z e0 0]++dY vw ss xs):=hrr
      exact⟨_,us,_,rfl,alb hv (hrr'.mono (fun x hx=>List.mem_append_left _ hx)) (hin2 id z e0 rfl) h2 h7,tail (hrr'.mono (fun x hx=>List.mem_append_right _ hx)) hrd⟩
     ·rename_i kc c _
      have hsl:∀x∈cW [c]++dY vw ss xs,x∈dY vw (.one kc::ss) (.one c::xs):=by
       intro x hx
       cases c<;>exact hx
      have hrr':=hrr.mono hsl
      obtain⟨v,h3,h4⟩:=ac7 hv (hrr'.mono (fun x hx=>List.mem_append_left _ hx)) (fun _=>⟨u,h7⟩) h2
      have h7':c.den ρ j=some u:=h7
      rw[h3] at h7'
      cases h7'
      have hrd':RdOk ρ j w vw.ld (pZ ss xs):=by
       intro p hp
       refine hrd p ?_
       cases c<;>exact hp
      exact⟨_,us,_,rfl,h4,tail (hrr'.mono (fun x hx=>List.mem_append_right _ hx)) hrd'⟩
     ·rename_i ks b
      split at h2
      ·rename_i hpos
       rw[Option.bind_eq_some_iff] at h2
       obtain⟨cs,hcs,h2⟩:=h2
       have hrr':RrOk ρ base j w vw.rw (cW cs++dY vw ss xs):=by
        have:dY vw (.ptr ks::ss) (.one (.ptr b 0)::xs)=cW cs++dY vw ss xs:=by simp only[dY,hcs]
        rw[←this]; exact hrr
       have hrd1:RdOk ρ j w vw.ld (cf b 0 ks.length):=fun p hp=>hrd p (List.mem_append_left _ hp)
       have hrd2:RdOk ρ j w vw.ld (pZ ss xs):=fun p hp=>hrd p (List.mem_append_right _ hp)
       obtain⟨kk,hk,rfl⟩:=kh h7
       have hcd:∀c∈cs,CK.any∈ks→∃v,c.den ρ j=some v:=fun c hc _=>by
        obtain⟨_,vs,h8,_⟩:=nz (ρ:=ρ) (w:=w) hk (vw.rowok _ _ _ _ hcs) hrd1
        obtain⟨i,hi⟩:=List.getElem?_of_mem hc
        obtain⟨v,_,hv⟩:=bO h8 i c hi
        exact⟨v,hv⟩
       obtain⟨vs,h3,h4⟩:=uC hv (hrr'.mono (fun x hx=>List.mem_append_left _ hx)) hcd h2
       obtain⟨hlen,hget⟩:=eY _ _ _ (vw.rowok _ _ _ _ hcs)
       have mem:∀(n o m:Nat),m<n→(b,o+m)∈cf b o n:=by
        intro n
        induction n with
        | zero=>intro o m hm; omega
        | succ n ih=>
          intro o m hm
          cases m with
          | zero=>simp[cf]
          | succ m=>simp only[cf,List.mem_cons]; right; rw[show o+(m+1)=o+1+m by omega]; exact ih (o+1) m (by omega)
       have cell:∀o u,vs[o]? =some u→w.cell? ⟨kk,o,none⟩=some u:=by
        intro o u hou
        have hlt:o<cs.length:=by rw[←aI h3]; exact(List.getElem?_eq_some_iff.1 hou).1
        have hc:=List.getElem?_eq_getElem hlt
        have hld:=hget o _ hc
        obtain⟨k',v,g1,g2,g3⟩:=hrd1 (b,0+o) (mem _ 0 o (by omega)) _ hld
        simp only at g1 g3
        rw[hk] at g1; cases g1
        obtain⟨u',hu',hd'⟩:=bO h3 o _ hc
        rw[hou] at hu'; cases hu'
        rw[g2] at hd'; cases hd'
        rw[Nat.zero_add] at g3
        exact g3
       have hlt:kk<w.heap.size:=by
        have h0:0<vs.length:=by rw[aI h3]; omega
        exact World.block_lt_of_cell? w ⟨kk,0,none⟩ (cell 0 vs[0] (List.getElem?_eq_getElem h0))
       exact⟨kk,vs,us,_,rfl,h4,hlt,cell,tail (hrr'.mono (fun x hx=>List.mem_append_right _ hx)) hrd2⟩
      ·cases h2
     ·rename_i ks b
      rw[Option.bind_eq_some_iff] at h2
      obtain⟨cs,hcs,h2⟩:=h2
      have hrr':RrOk ρ base j w vw.rw (cW cs++dY vw ss xs):=by
       have:dY vw (.ptr ks::ss) (.one (.fp b 0)::xs)=cW cs++dY vw ss xs:=by simp only[dY,hcs]
       rw[←this]; exact hrr
      split at h2
      rotate_left
      ·cases h2
      rename_i hsol
      obtain⟨kk,hk,rfl⟩:=acX h7
      obtain⟨k',vs',g1,g2,g3,g4⟩:=hfb.2 b cs hcs
      have hcd:∀c∈cs,CK.any∈ks→∃v,c.den ρ j=some v:=fun c hc _=>by
       obtain⟨i,hi⟩:=List.getElem?_of_mem hc
       obtain⟨v,_,hv⟩:=bO g3 i c hi
       exact⟨v,hv⟩
      obtain⟨vs,h3,h4⟩:=uC hv (hrr'.mono (fun x hx=>List.mem_append_left _ hx)) hcd h2
      rw[hk] at g1; cases g1
      rw[h3] at g3; cases g3
      exact⟨kk,_,us,_,rfl,h4,g2,fun o u hu=>g4 o u hu (by
       have hlt:o<cs.length:=by rw[←aI h3]; exact(List.getElem?_eq_some_iff.1 hu).1
       unfold eO
       rw[List.getD_eq_getElem?_getD,List.getElem?_eq_getElem hlt]
       exact List.all_eq_true.1 hsol _ (List.getElem_mem _)),tail (hrr'.mono (fun x hx=>List.mem_append_right _ hx)) hrd⟩
     ·cases h2
theorem gg (v0:Nat):∀(ks:List CK) (n:Nat),(aP v0 n ks).length=(ks.filter CK.isSl).length
 | [],_=>rfl
 | k::ks,n=>by
   have ih:=gg v0 ks (n+1)
   cases k<;>simp[aP,CK.isSl,List.filter_cons,ih]
theorem gK (v0:Nat):∀(ks:List CK) (n i:Nat) (r:RowOb),(aP v0 n ks)[i]? =some r→r.own=true
 | [],_,i,r,h=>by simp[aP] at h
 | k::ks,n,i,r,h=>by
   cases k with
   | sl a b=>
     cases i with
     | zero=>simp[aP] at h; rw[←h]
     | succ i=>exact gK v0 ks (n+1) i r (by simpa[aP] using h)
   | _=>exact gK v0 ks (n+1) i r h
theorem qM (hS:∀s∈cx.sm,SmOk P sp s) (hkeys:∀s∈cx.sm,∀s'∈cx.sm,s.key=s'.key→s=s') {c:Call} {kw:Kw} (hop:o.op=.call c) {f:Operand} (hc:c.callee=.value f) {g:Nat} (hf:vw.ev f=some (.one (.fn g))) {args:List V} (hl:evL vw.ev c.args.toList=some args)
  (hinA:(inA vw args).B ρ=true) (h:(xk cx vw g args kw k).holds sp G ρ I) (hg:Good sp cx.sm ρ kw):Sound P sp ρ G I base cx vw o k kw:=by
 unfold xk at h
 split at h
 ·exact h.elim
 ·rename_i s e hfind
  obtain⟨hs,hsf,henc⟩:=mF hfind
  have ok:=hS s hs
  split at h
  ·rename_i ks ty hin
   split at h
   ·rename_i _ id
    split at h
    ·rename_i r hsw
     split at h
     ·rename_i hck
      simp only[Bool.and_eq_true] at hck
      obtain⟨hown,hks,hty⟩:=hck
      replace hks:=bA hks
      replace hty:=Nat.eq_of_beq_eq_true hty
      obtain⟨hpre,heq,h⟩:=h
      obtain⟨L',hF,hrows,hrun⟩:=ok.inpl ks ty hin (r.l.R ρ) hpre
      have heq':ρ.l kw.vk.length=L':=by
       have:eqs ρ (sp.F s.key [.l (r.l.R ρ)]) kw.vk.length 0 [.sl ks ty]:=heq
       rw[hF] at this
       exact this.1
      refine⟨_,_,h,⟨hg.pc,?_,hg.log⟩,⟨rfl,by simp⟩,fun j a w hb hev hrd hwr hrr hfb K Q hK=> ?_⟩
      ·refine⟨fun n k hn=> ?_,fun n k hn=> ?_⟩
       ·rcases Nat.lt_or_ge n kw.vk.length with h1 | h1
        ·rw[List.getElem?_append_left h1] at hn; exact hg.vk.i n k hn
        ·rw[List.getElem?_append_right h1] at hn
         cases hd:n-kw.vk.length with
         | zero=>rw[hd] at hn; simp at hn
         | succ m=>rw[hd] at hn; simp at hn
       ·rcases Nat.lt_or_ge n kw.vk.length with h1 | h1
        ·rw[List.getElem?_append_left h1] at hn; exact hg.vk.l n k hn
        ·rw[List.getElem?_append_right h1] at hn
         cases hd:n-kw.vk.length with
         | zero=>
           rw[hd] at hn
           simp only[List.getElem?_cons_zero,Option.some.injEq,VK.list.injEq] at hn
           obtain rfl:n=kw.vk.length:=by omega
           rw[heq',←hn]; exact hrows
         | succ m=>rw[hd] at hn; simp at hn
      ·obtain⟨hrw,hkd⟩:=Vw.sw_some hsw
       obtain⟨sv,hsv,hrow⟩:=hrr id List.mem_cons_self r hrw
       have hso:SlOk ρ base w sv r:=by
        rcases hrow.1.cases with⟨_,h1⟩ | ⟨h1,_⟩ | ⟨h1,_⟩
        ·exact h1
        ·rw[hkd] at h1; cases h1
        ·rw[hkd] at h1; cases h1
       have hor:OwnRow w base ty ks sv (r.l.R ρ):=by
        rw[←hks,←hty]
        exact⟨hso.n,hso.own hown,hso.rows,hso.pos⟩
       obtain⟨hent,hcalls⟩:=hrun base sv w hor
       obtain⟨h1,h2⟩:=gk (j:=j) (a:=a) hl (fun x hx=>hev x (by simp[hop,Op.operands,Call.operands]; exact .inr (by simpa using hx)))
       have h4:=hev f (by simp[hop,Op.operands,Call.operands,hc]) _ hf
       have h5:a.eval f=.func (.func g) #[] #[]:=(Option.some.inj h4).symm
       have h7:c.args.map a.eval = #[sv.v]:=by
        have e2:c.args.toList.map a.eval=[sv.v]:=by
         match hm:c.args.toList.map a.eval,h2 with
         | [y],_=>
           have hd':(j.s id).map SV.v=some y:=h1 0 _ y rfl (by rw[hm]; rfl)
           rw[hsv] at hd'
           rw[Option.some.inj hd'.symm]
        have e3:c.args.map a.eval=(c.args.toList.map a.eval).toArray:=by rw[←cR]
        rw[e3,e2]
       have h6:(execOp a.eval o).run P w=(callFunc s.f #[sv.v]).run P w:=by
        rw[hsf]
        simp only[execOp,hop,resolve,hc,h5,h7,Deferred.ofValue,Sem.run_bind,Sem.run_pure,Result.andThen_ok,invoke,Array.empty_append,Array.append_empty]
       unfold Oper.wp
       rw[h6,hent]
       show Calls P s.f _ w _
       refine hcalls.mono ?_
       rintro e' w' ⟨rfl,ho,hgr⟩
       refine hK (.tuple #[]) j w' rfl ⟨rfl,sv,hsv,hgr,RowOk.mk_own hkd ?_ ?_ ?_ ?_⟩
       ·show sv.n=(ρ.l kw.vk.length).length
        rw[heq']; exact ho.n
       ·show RowsIn r.ks (ρ.l kw.vk.length)
        rw[heq',hks]; exact ho.rows
       ·exact hso.pos
       ·show w'.ownsRow base r.ty r.ks.length sv.v sv.n (flat r.ks (ρ.l kw.vk.length))
        rw[heq',hks,hty]; exact ho.own
     ·exact h.elim
    ·exact h.elim
   ·exact h.elim
  rename_i hin
  have main:∀v0 kw',KwGe kw' kw→sp.pre s.key (e.D ρ)→eqs ρ (sp.F s.key (e.D ρ)) v0 0 s.ks→(k {val:=resV s v0 vw.nid,rd:=pZ s.args args,rr:=dY vw s.args args,re:=.mk (aP v0 0 s.ks)} kw').holds sp G ρ I→Good sp cx.sm ρ kw'→Sound P sp ρ G I base cx vw o k kw:=by
   intro v0 kw' hlv hpre heq hh hg'
   refine⟨_,kw',hh,hg',hlv,fun j a w hb hev hrd hwr hrr hfb K Q hK=> ?_⟩
   obtain⟨h1,h2⟩:=gk (j:=j) (a:=a) hl (fun x hx=>hev x (by simp[hop,Op.operands,Call.operands]; exact .inr (by simpa using hx)))
   have h3:=ac9 hg.vk hrr hrd hfb henc hinA _ h1 h2
   have h4:=hev f (by simp[hop,Op.operands,Call.operands,hc]) _ hf
   have h5:a.eval f=.func (.func g) #[] #[]:=(Option.some.inj h4).symm
   have h7:c.args.map a.eval=(c.args.toList.map a.eval).toArray:=by rw[←cR]
   have h6:(execOp a.eval o).run P w=(callFunc s.f (c.args.toList.map a.eval).toArray).run P w:=by
    rw[hsf,←h7]
    simp only[execOp,hop,resolve,hc,h5,Deferred.ofValue,Sem.run_bind,Sem.run_pure,Result.andThen_ok,invoke,Array.empty_append,Array.append_empty]
   have fin:∀v w',RetOk s.res s.tup w w' (sp.F s.key (e.D ρ)) v→K (a.put o.dst v) w':=by
    intro v w' hkk
    obtain⟨hx,_,svs,hsl,hden,hrows,hdis,hzz⟩:=hkk
    refine hK v ((j.putL vw.nid svs).addzs (svs.flatMap (·.z))) w' (hden ρ v0 vw.nid _ heq (fun i u hu=> ?_)) ⟨hx,svs,by rw[hsl,gg]; rfl,fun i u r hu hr=> ?_,hdis,hzz,rfl⟩
    ·rw[ajF]; simp[J.putL,hu]
    ·exact⟨hrows ρ v0 heq i u r hu hr,gK v0 _ _ _ _ hr⟩
   rcases ok.calls hin _ _ w h3 hpre hfb.1 with⟨v,w',hr,hkk⟩ | ⟨hent,hcalls⟩
   ·rw[hr] at h6
    exact eH h6 (fin v w' hkk)
   ·unfold Oper.wp
    rw[h6,hent]
    show Calls P s.f _ w _
    refine hcalls.mono ?_
    rintro e' w' ⟨v,rfl,hkk⟩
    exact fin v w' hkk
  split at h
  ·rename_i v0 hlog
   obtain⟨s',hs',hk',hpre,heq⟩:=hg.log _ (nN hlog)
   have:=hkeys s' hs' s hs hk'
   subst this
   exact main v0 kw (.refl _) hpre heq h hg
  ·obtain⟨hpre,heq,h⟩:=h
   refine main kw.vk.length {kw with log:=(s.key,e,kw.vk.length)::kw.log,vk:=kw.vk++s.ks.map sx} ⟨rfl,by simp⟩ hpre heq h ⟨hg.pc,?_,?_⟩
   ·exact alE hg.vk (ok.rng _ (ada hg.vk henc) hpre ρ _ heq)
   ·intro p hp
    rcases List.mem_cons.1 hp with rfl | hp
    ·exact⟨s,hs,rfl,hpre,heq⟩
    ·exact hg.log p hp
theorem agX {pls:List Pl} {e:E} {kw:Kw} (h:Sound P sp ρ G I base cx vw o (pinK pls e k) kw):Sound P sp ρ G I base cx vw o k kw:=by
 obtain⟨eff,kw',h1,h2,h3,h4⟩:=h
 unfold pinK at h1
 split at h1
 ·exact⟨eff,kw',h1,h2,h3,h4⟩
 ·rename_i r _
  by_cases hc:(pinV eff.val r).2.B ρ=true
  ·refine⟨_,_,h1.1 hc,⟨fun p hp=> ?_,h2.vk,h2.log⟩,⟨h3.lv,h3.vk⟩,fun j a w hb hev hrd hwr hrr hfb K Q hK=>h4 j a w hb hev hrd hwr hrr hfb K Q (fun v j' w' hv hd=>hK v j' w' ((aiH _ _ hc).trans hv) hd)⟩
   rcases List.mem_cons.1 hp with rfl | hp
   ·exact hc
   ·exact h2.pc p hp
  ·exact(h1.2 (by simpa using hc)).elim
theorem adS (hS:∀s∈cx.sm,SmOk P sp s) (hkeys:∀s∈cx.sm,∀s'∈cx.sm,s.key=s'.key→s=s') {c:Call} {kw:Kw} (hop:o.op=.call c) {f:Operand} (hc:c.callee=.value f) {g:Nat} (hf:vw.ev f=some (.one (.fn g))) {args:List V} (hl:evL vw.ev c.args.toList=some args)
  (h:(ajs cx vw g args kw k).holds sp G ρ I) (hg:Good sp cx.sm ρ kw):Sound P sp ρ G I base cx vw o k kw:=by
 unfold ajs at h
 obtain⟨kw',h1,g1,_,l1⟩:=aF _ _ _ h hg
 split at h1
 ·rename_i hin
  refine Sound.lv ?_ l1
  unfold agA at h1
  split at h1
  ·exact qM hS hkeys hop hc hf hl hin h1 g1
  ·split at h1
   ·exact agX (qM hS hkeys hop hc hf hl hin h1 g1)
   ·exact h1.elim
 ·exact h1.elim
theorem adP {c x y:Operand} {kw:Kw} (hop:o.op=.pick c x y) {e:E} {u v:V} (hc:vw.ev c=some (.one (.bool e))) (hx:vw.ev x=some u) (hy:vw.ev y=some v)
  (h:(decK e (fun b kw=>k {val:=if b then u else v} kw) kw).holds sp G ρ I) (hg:Good sp cx.sm ρ kw):Sound P sp ρ G I base cx vw o k kw:=by
 obtain⟨kw',h1,g1,_,l1⟩:=aF _ _ _ h hg
 refine⟨_,kw',h1,g1,l1,OpOk.pure fun j a w _ hev _ _ _=>⟨if e.B ρ then a.eval x else a.eval y,?_,?_⟩⟩
 ·have h2:=hev x (by simp[hop,Op.operands]) _ hx
  have h3:=hev y (by simp[hop,Op.operands]) _ hy
  cases e.B ρ
  ·exact h3
  ·exact h2
 ·have h2:=fE (hev c (by simp[hop,Op.operands]) _ hc)
  simp[execOp,hop,h2,asBool,Sem.run_bind]
theorem mt (hT:∀t i,(t,i)∈cx.ty→TIok P t i):∀(fs:List Field) (l pl:List (Nat×Nat)),fs.map (fun f=>(f.offset,f.type))=l→kF cx.ty l=some pl→∀w,(fs.mapM (m:=Sem) fun f=>do pure (f.offset,←sizeOf f.type)).run P w=.ok pl w
 | [],l,pl,hl,h,w=>by subst hl; cases h; simp
 | f::fs,l,pl,hl,h,w=>by
   subst hl
   simp only[List.map_cons,kF] at h
   split at h
   ·rename_i i r hi hr
    cases h
    have:=(hT _ _ (ak hi)).size
    rw[List.mapM_cons]
    simp only[Sem.run_bind,this,Result.andThen_ok,Sem.run_pure]
    rw[mt hT fs _ r rfl hr w]
    simp
   ·cases h
theorem aaz (hT:∀t i,(t,i)∈cx.ty→TIok P t i) {t:Nat} {ps:Array (Nat×Operand)} {kw:Kw} (hop:o.op=.build t ps) {parts:List (Nat×V)} (hps:evP vw.ev ps.toList=some parts) {v:V} (hv:adq cx t parts=some v)
  (h:(k {val:=v} kw).holds sp G ρ I) (hg:Good sp cx.sm ρ kw):Sound P sp ρ G I base cx vw o k kw:=by
 refine⟨_,kw,h,hg,.refl _,OpOk.pure fun j a w _ hev _ _ _=> ?_⟩
 obtain⟨h1,h2⟩:=ac2 (a:=a) (j:=j) hps (fun x hx=>hev x (by
  simp only[hop,Op.operands]
  simpa using hx))
 have h3:(ps.map fun p=>(p.1,a.eval p.2)).toList=ps.toList.map fun p=>(p.1,a.eval p.2):=Array.toList_map ..
 have hx:execOp a.eval o=(do let v ←Instr.build t (ps.map fun p=>(p.1,a.eval p.2)); pure (.value v)):=by simp only[execOp,hop]
 unfold adq at hv
 split at hv
 ·rename_i i hi
  have ht:=hT _ _ (ak hi)
  obtain⟨z,hz,hzd⟩:=ht.zero
  split at hv
  ·rename_i n et ha
   split at hv
   ·rename_i ie hie
    rw[Option.map_eq_some_iff] at hv
    obtain⟨cs,hcs,rfl⟩:=hv
    obtain⟨cells,h4,h5⟩:=pP (j:=j) parts _ cs _ z.cells hcs (hzd ρ j) h1 h2
    refine⟨.agg cells,by simp[V.den,h5],?_⟩
    have hs:=(hT _ _ (ak hie)).size
    rw[hx]
    simp[Instr.build,Sem.run_bind,hz,run_underlying (ht.arr n et ha),hs,h3,h4]
   ·cases hv
  ·rename_i ha
   split at hv
   ·rename_i hagg
    split at hv
    ·rename_i pl hpl
     rw[Option.map_eq_some_iff] at hv
     obtain⟨cs,hcs,rfl⟩:=hv
     obtain⟨cells,h4,h5⟩:=pP (j:=j) parts _ cs _ z.cells hcs (hzd ρ j) h1 h2
     refine⟨.agg cells,by simp[V.den,h5],?_⟩
     obtain⟨fs,hfs,hfl⟩:=ht.str hagg ha
     have hm:=mt hT fs.toList i.fields pl hfl hpl w
     have hm':(fs.mapM (m:=Sem) fun f=>do pure (f.offset,←sizeOf f.type)).run P w=.ok pl.toArray w:=by
      rw[Array.mapM_eq_mapM_toList]
      rw[show(List.toArray <$> List.mapM (fun f=>(do pure (f.offset,←sizeOf f.type):Sem (Nat×Nat))) fs.toList:Sem (Array (Nat×Nat)))=(do let l ←List.mapM (fun f=>(do pure (f.offset,←sizeOf f.type):Sem (Nat×Nat))) fs.toList; pure l.toArray) from rfl]
      rw[Sem.run_bind,hm]
      rfl
     have h6:(fun m:Nat=>pl.toArray[m]?)=fun m:Nat=>pl[m]? :=by funext m; simp
     rw[hx]
     simp only[Instr.build,Sem.run_bind,hz,run_underlying hfs,Result.andThen_ok,hm',h3,h6,h4,Sem.run_pure]
    ·cases hv
   ·cases hv
 ·cases hv
theorem akP (hT:∀t i,(t,i)∈cx.ty→TIok P t i) (hS:∀s∈cx.sm,SmOk P sp s) (hkeys:∀s∈cx.sm,∀s'∈cx.sm,s.key=s'.key→s=s') {kw:Kw} (h:(opK cx vw o.op kw k).holds sp G ρ I) (hg:Good sp cx.sm ρ kw):Sound P sp ρ G I base cx vw o k kw:=by
 cases hop:o.op<;>rw[hop] at h<;>simp only[opK] at h
 case move x=>
  split at h
  ·rename_i v hv; exact vi (.inl hop) hv h hg
  ·exact h.elim
 case assign x=>
  split at h
  ·rename_i v hv; exact vi (.inr hop) hv h hg
  ·exact h.elim
 case alloc t=>
  split at h
  ·rename_i i hi; exact aaA hT hop hi h hg
  ·exact h.elim
 case box t x=>
  split at h
  ·rename_i v hv
   split at h
   ·rename_i hf; exact agZ hop hv hf h hg
   ·exact h.elim
  ·exact h.elim
 case load t x=>
  split at h
  ·rename_i b off i hx hi
   split at h
   ·rename_i hagg
    split at h
    ·rename_i cs hcs; exact qH hT hop hx hi hagg (vw.rowok _ _ _ _ hcs) h hg
    ·exact h.elim
   ·rename_i hagg
    split at h
    ·rename_i c hc; exact qI hT hop hx hi hagg hc h hg
    ·exact h.elim
  ·rename_i b off i hx hi
   split at h
   ·rename_i hagg
    split at h
    ·rename_i cs hcs
     rw[Option.bind_eq_some_iff] at hcs
     obtain⟨c0,hc0,hcs⟩:=hcs
     split at h
     ·rename_i hsol
      exact oA hT hop hx hi hagg (by have:=aaJ (ld:=fun b o=>(vw.fb b).bind (·[o]?)) (b:=b) (k:=0) hcs (fun i=>by simp[hc0]); rwa [Nat.zero_add] at this) hsol h hg
     ·exact h.elim
    ·exact h.elim
   ·rename_i hagg
    split at h
    ·rename_i c hc
     split at h
     ·rename_i hsol; exact oB hT hop hx hi hagg hc hsol h hg
     ·exact h.elim
    ·exact h.elim
  ·rename_i b o0 n sz e off i hx hi
   split at h
   ·rename_i cs hcs
    split at h
    ·rename_i hq; exact aas hT hop hx hi hcs (of_decide_eq_true hq) h hg
    ·exact h.elim
   ·exact h.elim
  ·rename_i id esz e off i hx hi
   split at h
   ·rename_i r hr
    split at h
    ·rename_i hq
     simp only[Bool.and_eq_true,decide_eq_true_eq] at hq
     exact aat hT hop hx hi hr (Nat.eq_of_beq_eq_true hq.1) hq.2 h hg
    ·exact h.elim
   ·exact h.elim
  ·exact h.elim
 case store t x y=>
  split at h
  ·rename_i b off v i hx hy hi
   split at h
   ·rename_i hq
    simp only[Bool.and_eq_true] at hq
    exact aaq hT hop hx hy hi hq.1 hq.2.1 hq.2.2 h hg
   ·exact h.elim
  ·rename_i b o0 n sz e off v i hx hy hi
   split at h
   ·rename_i cs hcs
    split at h
    ·rename_i hq
     simp only[Bool.and_eq_true,decide_eq_true_eq] at hq
     exact xD hT hop hx hy hi hcs hq.1 (Nat.eq_of_beq_eq_true hq.2.1) hq.2.2.1 (Nat.eq_of_beq_eq_true hq.2.2.2) h hg
    ·exact h.elim
   ·exact h.elim
  ·rename_i id esz e off v i hx hy hi
   split at h
   ·rename_i r hr
    split at h
    ·rename_i hq
     simp only[Bool.and_eq_true,decide_eq_true_eq] at hq
     exact xE hT hop hx hy hi hr hq.1 (Nat.eq_of_beq_eq_true hq.2.1) hq.2.2.1 (Nat.eq_of_beq_eq_true hq.2.2.2.1) hq.2.2.2.2 h hg
    ·exact h.elim
   ·exact h.elim
  ·exact h.elim
 case nilCheck x=>
  split at h
  ·rename_i b off hx; exact dr hop hx (.inl (.inl ⟨b,off,rfl⟩)) h hg
  ·rename_i b off hx; exact dr hop hx (.inl (.inr (.inl ⟨b,off,rfl⟩))) h hg
  ·rename_i b o0 n sz e off hx; exact ox hop hx h hg
  ·rename_i g hx; exact dr hop hx (.inr ⟨g,rfl⟩) h hg
  ·rename_i id esz e off hx; exact dr hop hx (.inl (.inr (.inr ⟨id,esz,e,off,rfl⟩))) h hg
  ·rename_i g fs ps hx; exact oy hop hx h hg
  ·exact h.elim
  ·exact h.elim
 case binOp op xt x y yt=>
  split at h
  ·rename_i v u hx hy; exact ag0 hT hop hx hy h hg
  ·exact h.elim
 case unOp op t x=>
  split at h
  ·rename_i e hx; exact aap hop hx h hg
  ·rename_i kd e hx; exact aap hop hx h hg
  ·rename_i kd e hx; exact aap hop hx h hg
  ·exact h.elim
 case convert s d x=>
  split at h
  ·rename_i k0 e i is hx hi his
   split at h
   ·rename_i kd hk; exact adR hT hop hx hi his hk h hg
   ·exact h.elim
  ·exact h.elim
 case fieldAddr s x f=>
  split at h
  ·rename_i b off i hx hi
   split at h
   ·rename_i fo ft hf; exact cN hT hop hx hi hf (fun j v hv=>rL hv) h hg
   ·exact h.elim
  ·rename_i b off i hx hi
   split at h
   ·rename_i fo ft hf; exact cN hT hop hx hi hf (fun j v hv=>ae5 hv) h hg
   ·exact h.elim
  ·rename_i b o0 n sz e off i hx hi
   split at h
   ·rename_i fo ft hf; exact cN hT hop hx hi hf (fun j v hv=>wD hv) h hg
   ·exact h.elim
  ·rename_i id esz e off i hx hi
   split at h
   ·rename_i fo ft hf; exact cN hT hop hx hi hf (fun j v hv=>wE hv) h hg
   ·exact h.elim
  ·exact h.elim
 case field s x f=>
  split at h
  ·rename_i cs i hx hi
   split at h
   ·rename_i fo ft hf
    split at h
    ·rename_i v hv; exact aaw hT hop hx hi hf hv h hg
    ·exact h.elim
   ·exact h.elim
  ·exact h.elim
 case indexAddr t x y=>
  split at h
  ·rename_i b off k0 e i hx hy hi
   split at h
   ·rename_i n et ha
    split at h
    ·rename_i ie hie
     split at h
     ·exact qJ hT hop hx hy hi ha hie h hg
     ·exact ib hT hop hx hy hi ha hie (c':=fun m=>.ptr b (off+m*ie.size)) (fun m j v hv=>rL hv) h hg
    ·exact h.elim
   ·exact h.elim
  ·rename_i id esz e0 off k0 e i hx hy hi
   split at h
   ·rename_i n et ha
    split at h
    ·rename_i ie hie; exact ib hT hop hx hy hi ha hie (c':=fun m=>.ep id esz e0 (off+m*ie.size)) (fun m j v hv=>wE hv) h hg
    ·exact h.elim
   ·exact h.elim
  ·rename_i id k0 e i hx hy hi
   split at h
   ·rename_i et ha
    split at h
    ·rename_i ie r hie hr
     split at h
     ·rename_i hks; exact qK hT hop hx hy hi ha hie hr (Nat.eq_of_beq_eq_true hks) h hg
     ·exact h.elim
    ·exact h.elim
   ·exact h.elim
  ·exact h.elim
  ·exact h.elim
 case index t x y=>
  split at h
  ·rename_i cs k0 e i hx hy hi
   split at h
   ·rename_i n et ha
    split at h
    ·rename_i ie hie; exact aav hT hop hx hy hi ha hie h hg
    ·exact h.elim
   ·exact h.elim
  ·exact h.elim
 case pick c x y=>
  split at h
  ·rename_i e u v hc hx hy; exact adP hop hc hx hy h hg
  ·exact h.elim
 case build t ps=>
  split at h
  ·rename_i parts hps
   split at h
   ·rename_i v hv; exact aaz hT hop hps hv h hg
   ·exact h.elim
  ·exact h.elim
 case buildSlice t n ps=>
  split at h
  ·rename_i parts i hps hi
   split at h
   ·rename_i et ha
    split at h
    ·rename_i ie hie
     split at h
     ·rename_i ks cs hks hfill
      split at h
      ·rename_i l hl
       split at h
       ·rename_i hq
        simp only[Bool.and_eq_true,decide_eq_true_eq] at hq
        exact mW hT hop hps hi ha hie hfill hl ⟨hq.1,hq.2.1,Nat.eq_of_beq_eq_true hq.2.2⟩ h hg
       ·exact h.elim
      ·exact h.elim
     ·exact h.elim
    ·exact h.elim
   ·exact h.elim
  ·exact h.elim
 case makeSlice t x y=>
  split at h
  ·rename_i k1 e k2 e' i hx hy hi
   split at h
   ·rename_i et ha
    split at h
    ·rename_i ie hie
     split at h
     ·rename_i ks hks
      split at h
      ·rename_i r hr
       split at h
       ·rename_i hq
        simp only[Bool.and_eq_true,decide_eq_true_eq] at hq
        exact oz hT hop hx hy hi ha hie hr ⟨hq.1,hq.2.1,Nat.eq_of_beq_eq_true hq.2.2.1,hq.2.2.2⟩ h hg
       ·exact h.elim
      ·exact h.elim
     ·exact h.elim
    ·exact h.elim
   ·exact h.elim
  ·exact h.elim
 case slice t x lo hi' mx=>
  cases mx with
  | some m=>exact h.elim
  | none=>
    simp only[opK] at h
    split at h
    ·rename_i id i hx hi
     split at h
     ·rename_i et r ha hr
      split at h
      ·rename_i ie hie
       split at h
       ·rename_i hq
        simp only[Bool.and_eq_true] at hq
        have hks:=Nat.eq_of_beq_eq_true hq.1
        split at h
        ·rename_i h1 h2
         have e1:hi'=none:=by simpa using h1
         have e2:lo=none:=by simpa using h2
         subst e1 e2
         exact aao hT hop hx hi ha hie h hg
        ·rename_i kd a h1 h2
         have e1:hi'=none:=by simpa using h1
         subst e1
         rw[Option.map_eq_some_iff] at h2
         obtain⟨y,rfl,hy⟩:=h2
         obtain⟨kw1,g1,q1,_,l1⟩:=aF _ _ _ h hg
         rw[bL] at g1
         split at g1
         ·exact g1.elim
         rename_i n1
         obtain⟨kw2,g2,q2,_,l2⟩:=aF _ _ _ g1 q1
         rw[bL,dg] at g2
         split at g2
         ·exact g2.elim
         rename_i n2
         have m1:¬a.I ρ<0:=of_decide_eq_false (Bool.eq_false_iff.2 n1)
         have m2:¬((r.l.R ρ).length:Int)<a.I ρ:=of_decide_eq_false (Bool.eq_false_iff.2 n2)
         exact(sQ hT hop hx hi ha hie hr hks (L:=(a.I ρ).toNat) (H:=(r.l.R ρ).length) (.inr ⟨y,kd,a,rfl,hy,by omega⟩) (.inl ⟨rfl,rfl⟩) (by simp[E.R]) (by omega) g2 q2).lv (l2.trans l1)
        ·rename_i kd c h1 h2
         have e2:lo=none:=by simpa using h2
         subst e2
         rw[Option.map_eq_some_iff] at h1
         obtain⟨y,rfl,hy⟩:=h1
         obtain⟨kw1,g1,q1,_,l1⟩:=aF _ _ _ h hg
         rw[bL] at g1
         split at g1
         ·exact g1.elim
         rename_i n1
         obtain⟨kw2,g2,q2,_,l2⟩:=aF _ _ _ g1 q1
         rw[bL,dg] at g2
         split at g2
         ·exact g2.elim
         rename_i n2
         have m1:¬c.I ρ<0:=of_decide_eq_false (Bool.eq_false_iff.2 n1)
         have m2:¬((r.l.R ρ).length:Int)<c.I ρ:=of_decide_eq_false (Bool.eq_false_iff.2 n2)
         exact(sQ hT hop hx hi ha hie hr hks (L:=0) (H:=(c.I ρ).toNat) (.inl ⟨rfl,rfl⟩) (.inr ⟨y,kd,c,rfl,hy,by omega⟩) (by simp[E.R]) (by omega) g2 q2).lv (l2.trans l1)
        ·rename_i kd c kd' a h1 h2
         rw[Option.map_eq_some_iff] at h1 h2
         obtain⟨y,rfl,hy⟩:=h1
         obtain⟨y',rfl,hy'⟩:=h2
         obtain⟨kw1,g1,q1,_,l1⟩:=aF _ _ _ h hg
         rw[bL] at g1
         split at g1
         ·exact g1.elim
         rename_i n1
         obtain⟨kw2,g2,q2,_,l2⟩:=aF _ _ _ g1 q1
         rw[bL,dg] at g2
         split at g2
         ·exact g2.elim
         rename_i n2
         obtain⟨kw3,g3,q3,_,l3⟩:=aF _ _ _ g2 q2
         rw[bL] at g3
         split at g3
         ·exact g3.elim
         rename_i n3
         obtain⟨kw4,g4,q4,_,l4⟩:=aF _ _ _ g3 q3
         rw[bL] at g4
         split at g4
         ·exact g4.elim
         rename_i n4
         have m1:¬c.I ρ<0:=of_decide_eq_false (Bool.eq_false_iff.2 n1)
         have m2:¬((r.l.R ρ).length:Int)<c.I ρ:=of_decide_eq_false (Bool.eq_false_iff.2 n2)
         have m3:¬a.I ρ<0:=of_decide_eq_false (Bool.eq_false_iff.2 n3)
         have m4:¬c.I ρ<a.I ρ:=of_decide_eq_false (Bool.eq_false_iff.2 n4)
         exact(sQ hT hop hx hi ha hie hr hks (L:=(a.I ρ).toNat) (H:=(c.I ρ).toNat) (.inr ⟨y',kd',a,rfl,hy',by omega⟩) (.inr ⟨y,kd,c,rfl,hy,by omega⟩) (by simp[E.R]) (by omega) g4 q4).lv (l4.trans (l3.trans (l2.trans l1)))
        ·exact h.elim
       ·exact h.elim
      ·exact h.elim
     ·exact h.elim
    ·exact h.elim
 case makeMap t rs=>
  cases rs with
  | some _=>exact h.elim
  | none=>
    exact h.elim
 case lookup t x y ok=>
  exact h.elim
 case mapUpdate t x y z=>
  exact h.elim
 case range t x=>
  exact h.elim
 case entry x=>
  exact h.elim
 case makeFunc fn fs ps=>
  split at h
  ·rename_i g x y hx hy; exact qG hop hx hy h hg
  ·exact h.elim
 case extract x n=>
  split at h
  ·rename_i vs hx
   split at h
   ·rename_i cs hp; exact la hop hx hp (.inl ⟨cs,rfl,rfl⟩) h hg
   ·rename_i c hp; exact la hop hx hp (.inr ⟨c,rfl,rfl⟩) h hg
   ·exact h.elim
  ·exact h.elim
 case call c=>
  split at h
  ·rename_i f hc
   split at h
   ·rename_i g args hf hl; exact adS hS hkeys hop hc hf hl h hg
   ·exact h.elim
  ·rename_i hc
   split at h
   ·rename_i id t hl hty
    split at h
    ·rename_i i r hi hr
     split at h
     ·rename_i hsl; exact agY hT hop hc hl hty hi hsl hr h hg
     ·exact h.elim
    ·exact h.elim
   ·rename_i t hl hty
    split at h
    ·rename_i i hi
     split at h
     ·rename_i hsl; exact adQ hT hop hc hl hty hi hsl h hg
     ·exact h.elim
    ·exact h.elim
   ·exact h.elim
  ·rename_i hc
   split at h
   ·rename_i s id t t' hl hty
    split at h
    ·rename_i i r hi hr
     split at h
     ·rename_i et ha
      split at h
      ·rename_i ie hie
       split at h
       ·rename_i hq
        simp only[Bool.and_eq_true,decide_eq_true_eq] at hq
        have htt:=Nat.eq_of_beq_eq_true hq.1
        subst htt
        have hq':r.ty=et∧r.ks.length=ie.size∧0<ie.size∧ie.bytes≤65536:=⟨Nat.eq_of_beq_eq_true hq.2.1,Nat.eq_of_beq_eq_true hq.2.2.1,hq.2.2.2.1,hq.2.2.2.2⟩
        split at h
        ·exact sR hT hop hc hl hty hi ha hie hr hq' h hg
        ·rename_i old
         split at h
         ·rename_i q hrq
          split at h
          ·rename_i hq2
           simp only[Bool.and_eq_true] at hq2
           exact xG hT hop hc hl hty hi ha hie hr hrq hq' ⟨hq2.1,Nat.eq_of_beq_eq_true hq2.2.1,bA hq2.2.2.1⟩ h hg
          ·exact h.elim
         ·exact h.elim
        ·exact h.elim
       ·exact h.elim
      ·exact h.elim
     ·exact h.elim
    ·exact h.elim
   ·exact h.elim
  ·rename_i hc
   split at h
   ·rename_i k0 e l hl
    split at h
    ·rename_i e' he; exact afO false hop hc hl he h hg
    ·exact h.elim
   ·exact h.elim
  ·rename_i hc
   split at h
   ·rename_i k0 e l hl
    split at h
    ·rename_i e' he; exact afO true hop hc hl he h hg
    ·exact h.elim
   ·exact h.elim
  ·exact h.elim
 all_goals exact h.elim
end
end Go.Proofs.YtfkhblmeioiciaaGreatDoor
set_option linter.unusedVariables false
set_option linter.unusedSimpArgs false
namespace Go.Proofs.YtfkhblmeioiciaaGreatDoor
open Go.RowKit
def wl:C→C→Option Bool
 | .ptr _ _,.nilp | .fp _ _,.nilp | .nilp,.ptr _ _ | .nilp,.fp _ _=>some false
 | .nilp,.nilp=>some true
 | _,_=>none
section
variable {P:Program} {sp:Spec} {ρ:Env} {G:Env→E→Prop} {I:Nat→List Dt→Prop} {base:Nat} {cx:Cx} {vw:Vw} {o:Oper} {k:Eff→Kw→Tr}
theorem aca {c d:C} {b:Bool} (h:wl c d=some b) {j:J} {x y:Value} (hx:(V.one c).den ρ j=some x) (hy:(V.one d).den ρ j=some y):∃p q,x=.pointer p∧y=.pointer q∧(p=none∨q=none)∧b=(p.isNone&&q.isNone):=by
 unfold wl at h
 split at h<;>cases h
 ·obtain⟨k,_,rfl⟩:=kh hx; cases hy; exact⟨_,_,rfl,rfl,.inr rfl,rfl⟩
 ·obtain⟨k,_,rfl⟩:=acX hx; cases hy; exact⟨_,_,rfl,rfl,.inr rfl,rfl⟩
 ·obtain⟨k,_,rfl⟩:=kh hy; cases hx; exact⟨_,_,rfl,rfl,.inl rfl,rfl⟩
 ·obtain⟨k,_,rfl⟩:=acX hy; cases hx; exact⟨_,_,rfl,rfl,.inl rfl,rfl⟩
 ·cases hx; cases hy; exact⟨_,_,rfl,rfl,.inl rfl,rfl⟩
theorem xX {t e:Nat} (hu:P.underlying t=some (.pointer e)) (p q:Option Addr) (h:p=none∨q=none) (w:World):(Op.equal t (.pointer p) (.pointer q)).run P w=.ok (p.isNone&&q.isNone) w:=by
 unfold Op.equal
 have key:∀d x y,(Op.equalIn (d+1) t x y).run P w=_:=fun d x y=>by rw[Op.equalIn,Sem.run_bind,run_underlying hu]
 rcases h with rfl | rfl
 ·refine(key 9999 _ _).trans ?_
  cases q<;>rfl
 ·refine(key 9999 _ _).trans ?_
  cases p<;>rfl
theorem aar (hT:∀t i,(t,i)∈cx.ty→TIok P t i) {op:BinOp} (hne:op=.eql∨op=.neq) {xt yt:Nat} {x y:Operand} {kw:Kw} (hop:o.op=.binOp op xt x y yt) {c d:C} (hx:vw.ev x=some (.one c)) (hy:vw.ev y=some (.one d)) {i:TI} (hi:ar xt cx.ty=some i) (hk:i.kd=1) {b:Bool} (hb:wl c d=some b)
  (h:(k {val:=.one (.bool (.tt (if op=.eql then b else !b)))} kw).holds sp G ρ I) (hg:Good sp cx.sm ρ kw):Sound P sp ρ G I base cx vw o k kw:=by
 refine⟨_,kw,h,hg,.refl _,OpOk.pure fun j ac w _ hev _ _ _=>⟨.bool (if op=.eql then b else !b),by simp[V.den,C.den,E.B],?_⟩⟩
 obtain⟨e,hu⟩:=(hT _ _ (ak hi)).ptr hk
 obtain⟨p,q,h1,h2,h3,rfl⟩:=aca hb (hev x (by simp[hop,Op.operands]) _ hx) (hev y (by simp[hop,Op.operands]) _ hy)
 have h4:=xX hu p q h3 w
 rcases hne with rfl | rfl<;>simp[execOp,hop,h1,h2,eqGuard,binOp,h4,Sem.run_bind]
theorem aaj:∀{a b:List (List Int)},(∀r∈a,az [some .u8] r=true)→(∀r∈b,az [some .u8] r=true)→kr a=kr b→a=b:=by
 have key:∀{a b:List (List Int)},(∀r∈a,az [some .u8] r=true)→(∀r∈b,az [some .u8] r=true)→(a.map fun r=>UInt8.ofNat (r.getD 0 0).toNat)=(b.map fun r=>UInt8.ofNat (r.getD 0 0).toNat)→a=b:=by
  intro a
  induction a with
  | nil=>intro b _ _ h; cases b with
    | nil=>rfl
    | cons=>simp at h
  | cons x a ih=>
    intro b ha hb h
    cases b with
    | nil=>simp at h
    | cons y b=>
      simp only[List.map_cons,List.cons.injEq] at h
      have hx:=ha x List.mem_cons_self
      have hy:=hb y List.mem_cons_self
      have h1:=ke hx
      have h2:=ke hy
      have h3:=ih (fun r hr=>ha r (List.mem_cons_of_mem _ hr)) (fun r hr=>hb r (List.mem_cons_of_mem _ hr)) h.2
      match x,y,h1,h2 with
      | [u],[v],_,_=>
        have hu:inK .u8 u=true:=by simpa[az,inCE] using hx
        have hv:inK .u8 v=true:=by simpa[az,inCE] using hy
        rw[aT] at hu hv
        simp only[IntKind.min,IntKind.max,IntKind.signed,IntKind.bits] at hu hv
        simp at hu hv
        have h4:(UInt8.ofNat u.toNat).toNat=(UInt8.ofNat v.toNat).toNat:=by
         have:=h.1
         simp only[List.getD_cons_zero] at this
         rw[this]
        rw[UInt8.toNat_ofNat',UInt8.toNat_ofNat'] at h4
        have:u=v:=by omega
        rw[this,h3]
 intro a b ha hb h
 refine key ha hb ?_
 have:=congrArg (fun s:ByteArray=>s.data.toList) h
 simpa[kr] using this
theorem qL (hT:∀t i,(t,i)∈cx.ty→TIok P t i) {op:BinOp} (hne:op=.eql∨op=.neq) {xt yt:Nat} {x y:Operand} {kw:Kw} (hop:o.op=.binOp op xt x y yt) {a b:E} (hx:vw.ev x=some (.one (.str a))) (hy:vw.ev y=some (.one (.str b))) {i:TI} (hi:ar xt cx.ty=some i) (hk:i.kd=2) (hla:a.lok kw.vk [some .u8]=true) (hlb:b.lok kw.vk [some .u8]=true)
  (h:(k {val:=.one (.bool (if op=.eql then .leq a b else fT (.leq a b)))} kw).holds sp G ρ I) (hg:Good sp cx.sm ρ kw):Sound P sp ρ G I base cx vw o k kw:=by
 have hu:=(hT _ _ (ak hi)).stg hk
 have heq:((kr (a.R ρ)).toList==(kr (b.R ρ)).toList)=(a.R ρ==b.R ρ):=by
  rw[Bool.eq_iff_iff,beq_iff_eq,beq_iff_eq,ByteArray.toList_eq,ByteArray.toList_eq]
  refine⟨fun h=>aaj (E.lok_ok hg.vk a hla) (E.lok_ok hg.vk b hlb) ?_,fun h=>by rw[h]⟩
  have h2:(kr (a.R ρ)).data=(kr (b.R ρ)).data:=Array.toList_inj.1 h
  cases h3:kr (a.R ρ)
  cases h4:kr (b.R ρ)
  rw[h3,h4] at h2
  simp only at h2
  rw[h2]
 refine⟨_,kw,h,hg,.refl _,OpOk.pure fun j ac w _ hev _ _ _=>⟨.bool (if op=.eql then(a.R ρ==b.R ρ) else !(a.R ρ==b.R ρ)),?_,?_⟩⟩
 ·rcases hne with rfl | rfl<;>simp[V.den,C.den,df,E.B]
 ·have h1:ac.eval x=.string (kr (a.R ρ)):=(Option.some.inj (hev x (by simp[hop,Op.operands]) _ hx)).symm
  have h2:ac.eval y=.string (kr (b.R ρ)):=(Option.some.inj (hev y (by simp[hop,Op.operands]) _ hy)).symm
  rcases hne with rfl | rfl<;>simp[execOp,hop,h1,h2,eqGuard,binOp,Op.stringOp,heq,Sem.run_bind]
end
end Go.Proofs.YtfkhblmeioiciaaGreatDoor
set_option linter.unusedVariables false
set_option linter.unusedSimpArgs false
namespace Go.Proofs.YtfkhblmeioiciaaGreatDoor
open Go.RowKit
section
variable {P:Program} {sp:Spec} {ρ:Env} {G:Env→E→Prop} {I:Nat→List Dt→Prop} {base:Nat} {cx:Cx} {vw:Vw} {o:Oper} {k:Eff→Kw→Tr}
theorem xF (hT:∀t i,(t,i)∈cx.ty→TIok P t i) {t:Nat} {x y:Operand} {kw:Kw} (hop:o.op=.index t x y) {cs:List C} (hx:vw.ev x=some (.agg cs)) {k0:IntKind} {e:E} (hy:vw.ev y=some (.one (.int k0 e))) {i:TI} (hi:ar t cx.ty=some i)
  {n et:Nat} (ha:i.arr=some (n,et)) {ie:TI} (hie:ar et cx.ty=some ie) (hlen:cs.length=n*ie.size) (h:(decK (inR e n) (fun ok kw=>if ok then(match uF e n ie.size cs 0 ie.size with
    | some ds=>if ie.agg then k {val:=.agg ds} kw else(match ds with
      | [d]=>k {val:=.one d} kw
      | _=>.stuck 195)
    | none=>.stuck 196) else .panic) kw).holds sp G ρ I) (hg:Good sp cx.sm ρ kw):Sound P sp ρ G I base cx vw o k kw:=by
 obtain⟨kw1,g1,q1,_,l1⟩:=aF _ _ _ h hg
 rw[afh] at g1
 split at g1
 ·rename_i hr
  rw[Bool.and_eq_true,decide_eq_true_eq,decide_eq_true_eq] at hr
  have hu:=(hT _ _ (ak hi)).arr n et ha
  have ht:=hT _ _ (ak hie)
  split at g1
  ·rename_i ds hds
   have key:∀{j:J} {a:Act} (w:World),(∀x∈o.op.operands.toList,∀v,vw.ev x=some v→v.den ρ j=some (a.eval x))→∃vs:List Value,denL ρ j ds=some ((vs.drop ((e.I ρ).toNat*ie.size+0)).take ie.size)∧ds.length=ie.size∧(execOp a.eval o).run P w=((part et vs.toArray ((e.I ρ).toNat*ie.size)).run P w).andThen fun v w=>.ok (.value v) w:=by
    intro j a w hev
    have hd:=hev x (by simp[hop,Op.operands]) _ hx
    simp only[V.den,Option.map_eq_some_iff] at hd
    obtain⟨vs,hvs,hp⟩:=hd
    have hq:=bH (hev y (by simp[hop,Op.operands]) _ hy)
    obtain⟨e1,e2⟩:=pV hvs hr.1 hr.2 ie.size 0 ds hds
    refine⟨vs,e2,e1,?_⟩
    simp[execOp,hop,←hp,hq,Instr.index,run_underlying hu,asIntOf,hr,ht.size,Sem.run_bind]
   split at g1
   ·rename_i hagg
    refine⟨_,kw1,g1,q1,l1,OpOk.pure fun j a w _ hev _ _ _=> ?_⟩
    obtain⟨vs,h1,h2,h3⟩:=key (j:=j) (a:=a) w hev
    refine⟨.agg ((vs.drop ((e.I ρ).toNat*ie.size+0)).take ie.size).toArray,by simp only[V.den,h1,Option.map_some],?_⟩
    rw[h3]
    have h4:vs.toArray.extract ((e.I ρ).toNat*ie.size) ((e.I ρ).toNat*ie.size+ie.size)=((vs.drop ((e.I ρ).toNat*ie.size+0)).take ie.size).toArray:=by
     simp[List.extract_eq_take_drop]
    simp only[part,Sem.run_bind,ht.agg,hagg,Result.andThen_ok,if_true,ht.size,h4,Sem.run_pure]
   ·rename_i hagg
    split at g1
    ·rename_i d
     refine⟨_,kw1,g1,q1,l1,OpOk.pure fun j a w _ hev _ _ _=> ?_⟩
     obtain⟨vs,h1,h2,h3⟩:=key (j:=j) (a:=a) w hev
     simp only[denL] at h1
     cases hdd:d.den ρ j with
     | none=>rw[hdd] at h1; cases h1
     | some v=>
       rw[hdd,Option.some.injEq] at h1
       refine⟨v,hdd,?_⟩
       have hz:ie.size=1:=h2.symm
       have h4:vs[(e.I ρ).toNat*ie.size]? =some v:=by
        have:=congrArg (fun l=>l[0]?) h1
        simp only[List.getElem?_cons_zero,List.getElem?_take,hz,List.getElem?_drop,Nat.add_zero] at this
        rw[if_pos (by omega)] at this
        rw[hz]; exact this.symm
       have h5:vs.toArray[(e.I ρ).toNat*ie.size]? =some v:=by simpa using h4
       have hagg':ie.agg=false:=by simpa using hagg
       rw[h3]
       simp only[part,Sem.run_bind,ht.agg,hagg',Result.andThen_ok,h5]
       simp
    ·exact g1.elim
  ·exact g1.elim
 ·exact g1.elim
def opX (cx:Cx) (vw:Vw) (op:Op) (kw:Kw) (k:Eff→Kw→Tr):Option Tr:=match op with
 | .binOp op xt x y _=>match vw.ev x,vw.ev y with
   | some (.one c),some (.one d)=>match ar xt cx.ty with
     | some i=>
       if Nat.beq i.kd 1 then(match wl c d,op with
        | some b,.eql=>some (k {val:=.one (.bool (.tt b))} kw)
        | some b,.neq=>some (k {val:=.one (.bool (.tt (!b)))} kw)
        | _,_=>none)
       else if Nat.beq i.kd 2 then(match c,d with
        | .str a,.str b=>if a.lok kw.vk [some .u8]&&b.lok kw.vk [some .u8] then(match op with
          | .eql=>some (k {val:=.one (.bool (.leq a b))} kw)
          | .neq=>some (k {val:=.one (.bool (fT (.leq a b)))} kw)
          | _=>none) else none
        | _,_=>none)
       else none
     | none=>none
   | _,_=>none
 | .index t x y=>match vw.ev x,vw.ev y,ar t cx.ty with
   | some (.agg cs),some (.one (.int _ e)),some i=>if agU cx &&!e.isLit then(match i.arr with
     | some (n,et)=>match ar et cx.ty with
       | some ie=>if Nat.beq cs.length (n*ie.size) then some (decK (inR e n) (fun ok kw=>if ok then(match uF e n ie.size cs 0 ie.size with
        | some ds=>if ie.agg then k {val:=.agg ds} kw else(match ds with
          | [d]=>k {val:=.one d} kw
          | _=>.stuck 195)
        | none=>.stuck 196) else .panic) kw) else none
       | none=>none
     | none=>none) else none
   | _,_,_=>none
 | _=>none
theorem akO (hT:∀t i,(t,i)∈cx.ty→TIok P t i) {kw:Kw} {tr:Tr} (ht:opX cx vw o.op kw k=some tr) (h:tr.holds sp G ρ I) (hg:Good sp cx.sm ρ kw):Sound P sp ρ G I base cx vw o k kw:=by
 cases hop:o.op<;>rw[hop] at ht<;>simp only[opX] at ht
 case binOp op xt x y yt=>
  split at ht
  ·rename_i c d hx hy
   split at ht
   ·rename_i i hi
    split at ht
    ·rename_i hk
     split at ht
     ·rename_i b hb; cases ht; exact aar hT (.inl rfl) hop hx hy hi (Nat.eq_of_beq_eq_true hk) hb h hg
     ·rename_i b hb; cases ht; exact aar hT (.inr rfl) hop hx hy hi (Nat.eq_of_beq_eq_true hk) hb h hg
     ·cases ht
    ·split at ht
     ·rename_i hk
      split at ht
      ·rename_i a b
       split at ht
       ·rename_i hl
        rw[Bool.and_eq_true] at hl
        split at ht
        ·cases ht; exact qL hT (.inl rfl) hop hx hy hi (Nat.eq_of_beq_eq_true hk) hl.1 hl.2 h hg
        ·cases ht; exact qL hT (.inr rfl) hop hx hy hi (Nat.eq_of_beq_eq_true hk) hl.1 hl.2 h hg
        ·cases ht
       ·cases ht
      ·cases ht
     ·cases ht
   ·cases ht
  ·cases ht
 case index t x y=>
  split at ht
  ·rename_i cs k0 e i hx hy hi
   split at ht
   ·split at ht
    ·rename_i n et ha
     split at ht
     ·rename_i ie hie
      split at ht
      ·rename_i hl
       cases ht
       exact xF hT hop hx hy hi ha hie (Nat.eq_of_beq_eq_true hl) h hg
      ·cases ht
     ·cases ht
    ·cases ht
   ·cases ht
  ·cases ht
 all_goals cases ht
end
end Go.Proofs.YtfkhblmeioiciaaGreatDoor
set_option linter.unusedVariables false
set_option linter.unusedSimpArgs false
namespace Go.Proofs.YtfkhblmeioiciaaGreatDoor
open Go.RowKit
theorem RdRow.kept {w w':World} {esz:Nat} {s:SV} {xs:List Value} (h:RdRow w esz s xs) (hb:∀k,s.blk false=some k→w'.heap[k]? =w.heap[k]?):RdRow w' esz s xs:=by
 obtain⟨h1,h2,h3,h4,h5⟩:=h
 refine⟨h1,h2,h3,h4,fun a ha i u hu=> ?_⟩
 have hc:s.c≠0:=fun hc=>by
  have hlt:=(List.getElem?_eq_some_iff.1 hu).1
  have:s.n=0:=by omega
  rw[h1,this] at hlt
  omega
 have:=h5 a ha i u hu
 have hblk:(a.add i).block=a.block:=by unfold Addr.add; split<;>rfl
 have he:w'.heap[(a.add i).block]? =w.heap[(a.add i).block]? :=by
  rw[hblk]
  exact hb a.block (mP hc (by simp[SV.v,ha,Value.ownBlock]))
 rw[World.cell?_of_block he]; exact this
def Vw.evw (vw:Vw) (id:Nat):Option RowOb:=match vw.rw id with
 | some r=>if r.kd.isEv then some r else none
 | none=>none
theorem Vw.evw_some {vw:Vw} {id:Nat} {r:RowOb} (h:vw.evw id=some r):vw.rw id=some r∧r.kd=.ev:=by
 unfold Vw.evw at h
 split at h
 ·rename_i q hq
  split at h
  ·rename_i hk
   cases h
   exact⟨hq,RK.isEv_eq hk⟩
  ·cases h
 ·cases h
section
variable {P:Program} {sp:Spec} {ρ:Env} {G:Env→E→Prop} {I:Nat→List Dt→Prop} {base:Nat} {cx:Cx} {vw:Vw} {o:Oper} {k:Eff→Kw→Tr}
theorem RrOk.ev {j:J} {w:World} {rr:List Nat} (h:RrOk ρ base j w vw.rw rr) (id:Nat) (hid:id∈rr) (r:RowOb) (hr:vw.evw id=some r):∃s,j.s id=some s∧EvOk ρ base w s r∧Zin j s∧∀p∈s.z,w.heap[p.1]? =some p.2:=by
 obtain⟨h1,h2⟩:=Vw.evw_some hr
 obtain⟨s,h3,h4,h5⟩:=h id hid r h1
 exact⟨s,h3,h4.2.2 h2,h5⟩
def opKX (cx:Cx) (vw:Vw) (op:Op) (kw:Kw) (k:Eff→Kw→Tr):Tr:=match opX cx vw op kw k with
 | some t=>t
 | none=>opK cx vw op kw k
theorem aiM (hT:∀t i,(t,i)∈cx.ty→TIok P t i) (hS:∀s∈cx.sm,SmOk P sp s) (hkeys:∀s∈cx.sm,∀s'∈cx.sm,s.key=s'.key→s=s') {kw:Kw} (h:(opKX cx vw o.op kw k).holds sp G ρ I) (hg:Good sp cx.sm ρ kw):Sound P sp ρ G I base cx vw o k kw:=by
 unfold opKX at h
 split at h
 ·rename_i t ht; exact akO hT ht h hg
 ·exact akP hT hS hkeys h hg
end
end Go.Proofs.YtfkhblmeioiciaaGreatDoor
