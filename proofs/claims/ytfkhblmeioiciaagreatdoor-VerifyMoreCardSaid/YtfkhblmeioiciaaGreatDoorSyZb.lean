import Derived.Test.YtfkhblmeioiciaaGreatDoorSyZa
import Derived.Sort.Row
import Derived.Laws.CopyRow
import Derived.Laws.BytesString
set_option maxRecDepth 100000
set_option maxHeartbeats 8000000
set_option linter.defProp false
set_option linter.unusedVariables false
set_option linter.unusedSimpArgs false
namespace Go.Proofs.YtfkhblmeioiciaaGreatDoor
open Go.RowKit
section
variable {P:Program} {sp:Spec} {U:Env} {G:Env->E->Prop} {I:Nat->List Dt->Prop} {base:Nat} {cx:Cx} {vw:Vw} {o:Oper} {k:Eff->Kw->Tr}
theorem si {e:E} {n:Nat} {kk:Nat->Kw->Tr}:∀(m:Nat) (kw:Kw),m<=n->(vl e n kk m kw).holds sp G U I->Good sp cx.sm U kw->∃i kw',i<n/\e.I U=(i:Int)/\(kk i kw').holds sp G U I/\Good sp cx.sm U kw'/\KwGe kw' kw
 | 0,kw,_,h,hg=>h.elim
 | m+1,kw,hm,h,hg=>by
   simp only[vl] at h
   obtain⟨kw1,h1,g1,_,l1⟩:=aY _ _ _ h hg
   rw[pI] at h1
   split at h1
   ·rename_i hb
    have hb':e.I U=((n-(m+1):Nat):Int):=by simpa[E.I] using hb
    exact⟨n-(m+1),kw1,by omega,hb',h1,g1,l1⟩
   ·obtain⟨i,kw2,h2,h3,h4,g2,l2⟩:=si m kw1 (by omega) h1 g1
    exact⟨i,kw2,h2,h3,h4,g2,l2.trans l1⟩
theorem js (hT:∀t i,(t,i)∈cx.ty->TIok P t i) {t:Nat} {x y:Operand} {kw:Kw} (hop:o.op=.indexAddr t x y) {c:C} {c':Nat->C} (hx:vw.ev x=some (.one c)) {k0:IntKind} {e:E} (hy:vw.ev y=some (.one (.int k0 e))) {i:TI} (hi:av t cx.ty=some i)
  {n et:Nat} (ha:i.arr=some (n,et)) {ie:TI} (hie:av et cx.ty=some ie) (hmv:∀m j v,c.den U j=some v->∃a,v=.pointer (some a)/\(c' m).den U j=some (.pointer (some (a.add (m*ie.size)))))
  (h:(vl e n (fun m kw=>k {val:=.one (c' m)} kw) n kw).holds sp G U I) (hg:Good sp cx.sm U kw):Sound P sp U G I base cx vw o k kw:=by
 obtain⟨m,kw',hm,he,h1,g1,l1⟩:=si n kw (Nat.le_refl _) h hg
 have hu:=(hT _ _ (an hi)).arr n et ha
 have hs:=(hT _ _ (an hie)).size
 refine⟨_,kw',h1,g1,l1,OpOk.pure fun j a w _ hev _ _ _=> ?_⟩
 obtain⟨p,hp,hd⟩:=hmv m j _ (hev x (by simp[hop,Op.operands]) _ hx)
 have hq:=cu (hev y (by simp[hop,Op.operands]) _ hy)
 refine⟨_,hd,?_⟩
 have hlt:(0:Int)<=(m:Int)/\(m:Int)<(n:Int):=by omega
 simp[execOp,hop,hp,hq,he,Instr.indexAt,run_underlying hu,Instr.sureAddr,asIntOf,hlt,hs,Sem.run_bind]
 omega
theorem adn (hT:∀t i,(t,i)∈cx.ty->TIok P t i) {t:Nat} {x y:Operand} {kw:Kw} (hop:o.op=.index t x y) {cs:List C} (hx:vw.ev x=some (.agg cs)) {k0:IntKind} {e:E} (hy:vw.ev y=some (.one (.int k0 e))) {i:TI} (hi:av t cx.ty=some i)
  {n et:Nat} (ha:i.arr=some (n,et)) {ie:TI} (hie:av et cx.ty=some ie) (h:(vl e n (fun m kw=>match abh cx et cs (m*ie.size) with | some v=>k {val:=v} kw | none=>.stuck 30) n kw).holds sp G U I) (hg:Good sp cx.sm U kw):Sound P sp U G I base cx vw o k kw:=by
 obtain⟨m,kw',hm,he,h1,g1,l1⟩:=si n kw (Nat.le_refl _) h hg
 have hu:=(hT _ _ (an hi)).arr n et ha
 have hs:=(hT _ _ (an hie)).size
 split at h1
 ·rename_i v hv
  refine⟨_,kw',h1,g1,l1,OpOk.pure fun j a w _ hev _ _ _=> ?_⟩
  have hd:=hev x (by simp[hop,Op.operands]) _ hx
  simp only[V.den,thm4] at hd
  obtain⟨vs,hvs,hp⟩:=hd
  have hq:=cu (hev y (by simp[hop,Op.operands]) _ hy)
  obtain⟨u,hu',hr⟩:=afS hT hv hvs w
  refine⟨u,hu',?_⟩
  have hlt:(0:Int)<=(m:Int)/\(m:Int)<(n:Int):=by omega
  simp[execOp,hop,<-hp,hq,he,Instr.index,run_underlying hu,asIntOf,hlt,hs,Sem.run_bind,hr]
  omega
 ·exact h1.elim
theorem xW (U:Env) (e l:E):(inB e l).B U=(decide (0<=e.I U)&&decide (e.I U<((l.R U).length:Int))):=by
 simp only[inB,eG,cJ,eh,gG,E.I]
 rw[bV]
 rfl
theorem tY (hT:∀t i,(t,i)∈cx.ty->TIok P t i) {t:Nat} {x y:Operand} {kw:Kw} (hop:o.op=.indexAddr t x y) {id:Nat} (hx:vw.ev x=some (.one (.sl id))) {k0:IntKind} {e:E} (hy:vw.ev y=some (.one (.int k0 e))) {i:TI} (hi:av t cx.ty=some i)
  {et:Nat} (ha:i.sle=some et) {ie:TI} (hie:av et cx.ty=some ie) {r:RowOb} (hr:vw.sw id=some r) (hks:r.ks.length=ie.size)
  (h:(decK (inB e r.l) (fun b kw=>if b then k {val:=.one (.ep id ie.size e 0),rr:=[id]} kw else .panic) kw).holds sp G U I) (hg:Good sp cx.sm U kw):Sound P sp U G I base cx vw o k kw:=by
 obtain⟨kw',h1,g1,_,l1⟩:=aY _ _ _ h hg
 rw[xW] at h1
 split at h1
 ·rename_i hb
  simp only[thm0,bl] at hb
  refine⟨_,kw',h1,g1,l1,OpOk.pure fun j a w _ hev _ hrr _=> ?_⟩
  obtain⟨s,hs,hok⟩:=hrr.sl id (by simp) r hr
  have hd:=hev x (by simp[hop,Op.operands]) _ hx
  simp only[V.den,C.den,hs,Option.map_some,bh] at hd
  have hq:=cu (hev y (by simp[hop,Op.operands]) _ hy)
  have hu:=(hT _ _ (an hi)).sle et ha
  have hsz:=(hT _ _ (an hie)).size
  obtain⟨sa,sn,sc,sz⟩:=s
  have hn:=hok.n
  simp only at hn
  have hrd:=hok.rd
  cases sa with
  | none=>have:=(hrd.2.2.2.1 rfl).1;simp only at this;omega
  | some p=>
    refine⟨.pointer (some (p.add ((e.I U).toNat*ie.size+0))),by simp[V.den,C.den,hs,SV.elem],?_⟩
    have hlt:(0:Int)<=e.I U/\e.I U<(sn:Int):=by omega
    simp[execOp,hop,<-hd,SV.v,hq,Instr.indexAt,run_underlying hu,asIntOf,hlt,hsz,Sem.run_bind]
 ·exact h1.elim
theorem ef {a:Addr} {w:World}:∀(vs:List Value) (i:Nat) (acc:Array Value),(∀m u,vs[m]? =some u->w.cell? (a.add (i+m))=some u)->(loadCellsFrom a i vs.length acc).run P w=.ok (acc++vs.toArray) w
 | [],i,acc,_=>by simp[loadCellsFrom]
 | v::vs,i,acc,h=>by
   have h0:=h 0 v rfl
   simp only[Nat.add_zero] at h0
   simp only[List.length_cons,loadCellsFrom,Sem.run_bind,load,Sem.run,h0,Result.andThen_ok]
   rw[ef vs (i+1) _ (fun m u hu=>by rw[Nat.add_assoc,Nat.add_comm 1 m];exact h (m+1) u (by simpa using hu))]
   simp
theorem jh {j:J}:∀{cs:List C} {vs:List Value},cs.length=vs.length->(∀(m:Nat) c,cs[m]? =some c->∃u,vs[m]? =some u/\c.den U j=some u)->denL U j cs=some vs
 | [],vs,hl,_=>by
   cases vs with
   | nil=>rfl
   | cons=>cases hl
 | c::cs,vs,hl,h=>by
   cases vs with
   | nil=>cases hl
   | cons v vs=>
     obtain⟨u,hu,hd⟩:=h 0 c rfl
     simp only[bK,bh] at hu
     subst hu
     have:=jh (cs:=cs) (vs:=vs) (by simpa using hl) (fun m c hm=>by simpa using h (m+1) c (by simpa using hm))
     simp[denL,hd,this]
theorem gB {ld:Nat->Nat->Option C} {b:Nat}:∀(n o:Nat) (cs:List C),gC ld b o n=some cs->cs.length=n/\∀m c,cs[m]? =some c->ld b (o+m)=some c
 | 0,o,cs,h=>by cases h;exact⟨rfl,fun m c hm=>by simp at hm⟩
 | n+1,o,cs,h=>by
   simp only[gC] at h
   cases hc:ld b o with
   | none=>rw[hc] at h;cases h
   | some c=>
     cases hl:gC ld b (o+1) n with
     | none=>rw[hc,hl] at h;cases h
     | some l=>
       rw[hc,hl] at h;cases h
       obtain⟨h1,h2⟩:=gB n (o+1) l hl
       refine⟨by simp[h1],fun m c' hm=> ?_⟩
       cases m with
       | zero=>simp at hm;subst hm;exact hc
       | succ m=>rw[show o+(m+1)=o+1+m by omega];exact h2 m c' (by simpa using hm)
theorem agw {j:J} {b off:Nat} {v:Value} (h:(V.one (.fp b off)).den U j=some v):∃kk,j.f b=some kk/\v=.pointer (some ⟨kk,off,none⟩):=by
 simp only[V.den,C.den,thm4] at h
 obtain⟨kk,hk,rfl⟩:=h
 exact⟨kk,hk,rfl⟩
theorem qs (hT:∀t i,(t,i)∈cx.ty->TIok P t i) {t:Nat} {x:Operand} {kw:Kw} (hop:o.op=.load t x) {b off:Nat} (hx:vw.ev x=some (.one (.fp b off))) {i:TI} (hi:av t cx.ty=some i) (hagg:i.agg=true) {cs:List C} (hcs:gC (fun b o=>(vw.fb b).bind (·[o]?)) b off i.size=some cs) (hsol:cs.all C.solid=true)
  (h:(k {val:=.agg cs} kw).holds sp G U I) (hg:Good sp cx.sm U kw):Sound P sp U G I base cx vw o k kw:=by
 refine⟨_,kw,h,hg,.refl _,OpOk.pure fun j a w _ hev _ _ hfb=> ?_⟩
 have ht:=hT _ _ (an hi)
 obtain⟨kk,hk,he⟩:=agw (hev x (by simp[hop,Op.operands]) _ hx)
 obtain⟨hlen,hget⟩:=gB _ _ _ hcs
 by_cases h0:i.size=0
 ·have hnil:cs=[]:=List.eq_nil_of_length_eq_zero (by omega)
  subst hnil
  refine⟨.agg #[],rfl,?_⟩
  simp[execOp,hop,he,Instr.loadAt,Instr.sureAddr,Sem.run_bind,loadVar,ht.agg,hagg,ht.size,loadCells,h0,loadCellsFrom]
 have hcont:∃c0,vw.fb b=some c0:=by
  cases hb:vw.fb b with
  | some c0=>exact⟨c0,rfl⟩
  | none=>
    exfalso
    have h1:0<cs.length:=by omega
    have:=hget 0 cs[0] (thm6 h1)
    simp[hb] at this
 obtain⟨c0,hc0⟩:=hcont
 obtain⟨kk',vs,h1,_,h2,h3⟩:=hfb.2 b c0 hc0
 rw[hk] at h1;cases h1
 have hv:∀m c,cs[m]? =some c->∃u,vs[off+m]? =some u/\c.den U j=some u:=fun m c hm=>by
  have:=hget m c hm
  simp only[hc0,Option.bind_some] at this
  exact cq h2 (off+m) c this
 have hus:denL U j cs=some ((vs.drop off).take i.size):=by
  refine jh ?_ (fun m c hm=> ?_)
  ·rw[List.length_take,List.length_drop,hlen]
   obtain⟨u,hu,_⟩:=hv (cs.length-1) cs[cs.length-1] (thm6 (by omega))
   have:=(bR.1 hu).1
   omega
  ·obtain⟨u,hu,hd⟩:=hv m c hm
   refine⟨u,?_,hd⟩
   have hlt:=(bR.1 hm).1
   rw[List.getElem?_take,if_pos (by omega),List.getElem?_drop]
   exact hu
 have hl:=aL hus
 refine⟨_,by simp only[V.den,hus];rfl,?_⟩
 have h4:=ef (P:=P) (a:=⟨kk,off,none⟩) (w:=w) ((vs.drop off).take i.size) 0 #[] (fun m u hu=>by
  rw[ba,bn]
  have hlt:m<i.size:=by
   have:=(bR.1 hu).1
   rw[List.length_take] at this;omega
  rw[List.getElem?_take,if_pos hlt,List.getElem?_drop] at hu
  refine h3 _ u hu ?_
  have hc:=thm6 (show m<cs.length by omega)
  have hg:=hget m _ hc
  simp only[hc0,Option.bind_some] at hg
  unfold fW
  rw[cN,hg]
  exact thm7.1 hsol _ (List.getElem_mem _))
 rw[hl,hlen] at h4
 simp[execOp,hop,he,Instr.loadAt,Instr.sureAddr,Sem.run_bind,loadVar,ht.agg,hagg,ht.size,loadCells,h4]
theorem qt (hT:∀t i,(t,i)∈cx.ty->TIok P t i) {t:Nat} {x:Operand} {kw:Kw} (hop:o.op=.load t x) {b off:Nat} (hx:vw.ev x=some (.one (.fp b off))) {i:TI} (hi:av t cx.ty=some i) (hagg:¬i.agg=true) {c:C} (hc:(vw.fb b).bind (·[off]?)=some c) (hsol:c.solid=true)
  (h:(k {val:=.one c} kw).holds sp G U I) (hg:Good sp cx.sm U kw):Sound P sp U G I base cx vw o k kw:=by
 refine⟨_,kw,h,hg,.refl _,OpOk.pure fun j a w _ hev _ _ hfb=> ?_⟩
 have ht:=hT _ _ (an hi)
 obtain⟨kk,hk,he⟩:=agw (hev x (by simp[hop,Op.operands]) _ hx)
 rw[bJ] at hc
 obtain⟨c0,hc0,hc⟩:=hc
 obtain⟨kk',vs,h1,_,h2,h3⟩:=hfb.2 b c0 hc0
 rw[hk] at h1;cases h1
 obtain⟨u,hu,hd⟩:=cq h2 off c hc
 have hagg':i.agg=false:=by simpa using hagg
 have h4:=h3 off u hu (by unfold fW;rw[cN,hc];exact hsol)
 exact⟨u,hd,by simp[execOp,hop,he,Instr.loadAt,Instr.sureAddr,Sem.run_bind,loadVar,ht.agg,hagg',load,Sem.run,h4]⟩
theorem vL {j:J} {id esz off:Nat} {e:E} {v:Value} {s:SV} (hs:j.s id=some s) (h:(V.one (.ep id esz e off)).den U j=some v):∃a,s.a=some a/\v=.pointer (some (a.add ((e.I U).toNat*esz+off))):=by
 simp only[V.den,C.den,hs,Option.bind_some,SV.elem,thm4] at h
 obtain⟨a,ha,rfl⟩:=h
 exact⟨a,ha,rfl⟩
theorem sd (U:Env) (j:J) (l e:E) (c:Nat) (k:CE):(rowC l e c k).den U j=some (gM k (gt (l.R U) (e.I U) c)):=by
 cases k<;>simp[rowC,C.den,gM,af7,sx]
theorem vf {l e:E}:∀{ks:List CE} {c0 m:Nat} {c:C},(im l e c0 ks)[m]? =some c->∃k,ks[m]? =some k/\c=rowC l e (c0+m) k
 | [],c0,m,c,h=>by simp[im] at h
 | k::ks,c0,m,c,h=>by
   cases m with
   | zero=>simp[im] at h;exact⟨k,rfl,h.symm⟩
   | succ m=>
     obtain⟨k',h1,h2⟩:=vf (ks:=ks) (c0:=c0+1) (m:=m) (by simpa[im] using h)
     exact⟨k',by simpa using h1,by rw[h2];congr 1;omega⟩
theorem lH (l e:E):∀(ks:List CE) (c0:Nat),(im l e c0 ks).length=ks.length
 | [],_=>rfl
 | k::ks,c0=>by simp[im,lH l e ks]
theorem adl (hT:∀t i,(t,i)∈cx.ty->TIok P t i) {t:Nat} {x:Operand} {kw:Kw} (hop:o.op=.load t x) {id esz off:Nat} {e:E} (hx:vw.ev x=some (.one (.ep id esz e off))) {i:TI} (hi:av t cx.ty=some i) {r:RowOb} (hr:vw.sw id=some r) (hks:r.ks.length=esz) (hoff:off+i.size<=esz)
  (h:(decK (inB e r.l) (fun b kw=>if b then
      (if i.agg then k {val:=.agg (zO r.l e off ((r.ks.drop off).take i.size)),rr:=[id]} kw
      else match r.ks[off]? with
       | some ck=>k {val:=.one (rowC r.l e off ck),rr:=[id]} kw
       | none=>.stuck 53)
      else .stuck 54) kw).holds sp G U I) (hg:Good sp cx.sm U kw):Sound P sp U G I base cx vw o k kw:=by
 simp only[afC] at h
 obtain⟨kw',h1,g1,_,l1⟩:=aY _ _ _ h hg
 rw[xW] at h1
 have ht:=hT _ _ (an hi)
 split at h1
 ·rename_i hb
  simp only[thm0,bl] at hb
  have cells:∀{j:J} {w:World} {s:SV} {p:Addr},SlOk U base w s r->s.a=some p->∀c ck,r.ks[c]? =some ck->w.cell? (p.add ((e.I U).toNat*esz+c))=some (gM ck (gt (r.l.R U) (e.I U) c)):=by
   intro j w s p hok hp c ck hck
   have:=mr hck (i:=(e.I U).toNat) hok.rows.row (by omega)
   rw[hks] at this
   exact hok.rd.2.2.2.2 p hp _ _ this
  split at h1
  ·rename_i hagg
   refine⟨_,kw',h1,g1,l1,OpOk.pure fun j a w _ hev _ hrr _=> ?_⟩
   obtain⟨s,hs,hok⟩:=hrr.sl id (by simp) r hr
   obtain⟨p,hp,he⟩:=vL hs (hev x (by simp[hop,Op.operands]) _ hx)
   have hkl:((r.ks.drop off).take i.size).length=i.size:=by rw[List.length_take,List.length_drop];omega
   have hus:denL U j (im r.l e off ((r.ks.drop off).take i.size))=some ((List.range i.size).map fun m=>gM ((r.ks[off+m]?).getD none) (gt (r.l.R U) (e.I U) (off+m))):=by
    refine jh (by rw[lH,hkl];simp) (fun m c hm=> ?_)
    obtain⟨ck,hck,rfl⟩:=vf hm
    have hm':m<i.size:=by
     have:=(bR.1 hck).1
     omega
    rw[List.getElem?_take,if_pos hm',List.getElem?_drop] at hck
    refine⟨_,?_,sd U j _ _ _ _⟩
    simp[hm',hck]
   refine⟨_,by simp only[V.den,hus];rfl,?_⟩
   have h4:=ef (P:=P) (a:=p.add ((e.I U).toNat*esz+off)) (w:=w) ((List.range i.size).map fun m=>gM ((r.ks[off+m]?).getD none) (gt (r.l.R U) (e.I U) (off+m))) 0 #[] (fun m u hu=>by
    rw[bn,bX,Nat.add_assoc]
    have hm':m<i.size:=by
     have:=(bR.1 hu).1
     simpa using this
    obtain⟨ck,hck⟩:∃ck,r.ks[off+m]? =some ck:=⟨_,thm6 (by omega)⟩
    have:=cells (j:=j) hok hp (off+m) ck hck
    simp[hm',hck] at hu
    rw[this,hu])
   simp only[List.length_map,List.length_range] at h4
   simp[execOp,hop,he,Instr.loadAt,Instr.sureAddr,Sem.run_bind,loadVar,ht.agg,hagg,ht.size,loadCells,h4]
  ·rename_i hagg
   split at h1
   ·rename_i ck hck
    refine⟨_,kw',h1,g1,l1,OpOk.pure fun j a w _ hev _ hrr _=> ?_⟩
    obtain⟨s,hs,hok⟩:=hrr.sl id (by simp) r hr
    obtain⟨p,hp,he⟩:=vL hs (hev x (by simp[hop,Op.operands]) _ hx)
    have h4:=cells (j:=j) hok hp off ck hck
    have hagg':i.agg=false:=by simpa using hagg
    exact⟨_,sd U j _ _ _ _,by simp[execOp,hop,he,Instr.loadAt,Instr.sureAddr,Sem.run_bind,loadVar,ht.agg,hagg',load,Sem.run,h4]⟩
   ·exact h1.elim
 ·exact h1.elim
theorem aaa {w:World} {base ty esz:Nat} {s:SV} {xs:List Value} (h:w.ownsRow base ty esz s.v s.n xs) {p:Addr} (hp:s.a=some p):∃g,p=⟨g,0,none⟩/\s.v=.slice (some ⟨g,0,none⟩) s.n s.c:=by
 rcases h.2 with⟨hv,_⟩ | ⟨g,cap,cur,hv,_⟩
 ·simp only[SV.v,hp] at hv;cases hv
 ·simp only[SV.v,hp,Value.slice.injEq,bh] at hv
  exact⟨g,hv.1,by simp only[SV.v,hp,hv.1]⟩
theorem al1 {ks:List CE} {L:List (List Int)} {c:Nat} {k:CE} (hk:ks[c]? =some k) {x:Int} (hx:inCE k x=true) (h:RowsIn ks L) (i:Int):RowsIn ks (st L i c x):=by
 refine⟨fun r hr=> ?_,by rw[eP];exact h.len⟩
 rcases vy hr with hr | ⟨r0,hr0,rfl⟩
 ·exact h.row r hr
 ·exact oe (h.row r0 hr0) hk hx
theorem gv {ty g n cap:Nat} {e:E} {j:J} {vk:List VK} (hv:Vk U vk):∀(ks0:List CE) (cs:List C) (l l':E) (off i0:Nat) (vs:List Value) (w:World) (p:Addr),
  dO vk l e off ks0 cs=some l'->denL U j cs=some vs->∀ks:List CE,(∀m:Nat,ks0[m]? =ks[off+m]?)->RowsIn ks (l.R U)->(e.I U).toNat<(l.R U).length->w.ownsRow base ty ks.length (.slice (some ⟨g,0,none⟩) n cap) n (flat ks (l.R U))->(∀m,p.add (i0+m)=⟨g,(e.I U).toNat*ks.length+(off+m),none⟩)->
  ∃w',(storeCells p vs i0).run P w=.ok () w'/\w'.ownsRow base ty ks.length (.slice (some ⟨g,0,none⟩) n cap) n (flat ks (l'.R U))/\w.grownBy w' (some g)/\RowsIn ks (l'.R U)/\(l'.R U).length=(l.R U).length
 | ks0,[],l,l',off,i0,vs,w,p,hput,hd,ks,hsub,hrows,hi,hown,hp=>by
   have e1:l'=l:=by
    unfold dO at hput
    cases ks0 with
    | nil=>exact(Option.some.inj hput).symm
    | cons k ks0=>cases k<;>exact(Option.some.inj hput).symm
   subst e1
   cases hd
   exact⟨w,by simp[storeCells],hown,⟨rfl,rfl,rfl,Nat.le_refl _,fun _ _ _=>rfl⟩,hrows,rfl⟩
 | [],c::cs,l,l',off,i0,vs,w,p,hput,hd,ks,hsub,hrows,hi,hown,hp=>by simp[dO] at hput
 | k::ks0,c::cs,l,l',off,i0,vs,w,p,hput,hd,ks,hsub,hrows,hi,hown,hp=>by
   simp only[denL] at hd
   cases hc:c.den U j with
   | none=>rw[hc] at hd;cases hd
   | some v=>
     cases hl:denL U j cs with
     | none=>rw[hc,hl] at hd;cases hd
     | some us=>
       rw[hc,hl] at hd;cases hd
       have hk:ks[off]? =some k:=by have:=hsub 0;simpa using this.symm
       have hn:(flat ks (l.R U)).length=(l.R U).length*ks.length:=bW hrows.row
       have hcl:off<ks.length:=(bR.1 hk).1
       have step:∀(x:Int) (l1:E),v=gM k x->inCE k x=true->l1.R U=st (l.R U) (e.I U) off x->dO vk l1 e (off+1) ks0 cs=some l'->
        ∃w',(storeCells p (v::us) i0).run P w=.ok () w'/\w'.ownsRow base ty ks.length (.slice (some ⟨g,0,none⟩) n cap) n (flat ks (l'.R U))/\w.grownBy w' (some g)/\RowsIn ks (l'.R U)/\(l'.R U).length=(l.R U).length:=by
        intro x l1 hvx hx hl1 hput'
        have hfs:(flat ks (l.R U)).set ((e.I U).toNat*ks.length+off) (gM k x)=flat ks (l1.R U):=by rw[hl1];exact aaw hk x hrows.row hi
        have hlt:(e.I U).toNat*ks.length+off<n*ks.length:=by
         have h1:=hown.1
         rw[hn] at h1
         have h2:((e.I U).toNat+1)*ks.length<=(l.R U).length*ks.length:=Nat.mul_le_mul_right _ hi
         rw[Nat.succ_mul] at h2
         omega
        have hcell:∃u,w.cell? ⟨g,(e.I U).toNat*ks.length+off,none⟩=some u:=by
         have h1:=hown.cellAt _ hlt
         have h2:(e.I U).toNat*ks.length+off<(flat ks (l.R U)).length:=by rw[hown.1];exact hlt
         exact⟨_,by rw[h1,thm6 h2]⟩
        obtain⟨u,hu⟩:=hcell
        have hfr:=hown.frozenAt ((e.I U).toNat*ks.length+off)
        obtain⟨h3,h4⟩:=hown.stored ((e.I U).toNat*ks.length+off) v
        rw[hvx,hfs] at h3
        have hp0:=hp 0
        simp only[Nat.add_zero] at hp0
        have hone:v.oneCell'=true:=by rw[hvx];cases k<;>rfl
        obtain⟨w',h5,h6,h7,h8,h9⟩:=gv hv ks0 cs l1 l' (off+1) (i0+1) us (w.setCell ⟨g,(e.I U).toNat*ks.length+off,none⟩ v) p hput' hl ks (fun m=>by have:=hsub (m+1);simpa[Nat.add_assoc,Nat.add_comm 1 m] using this)
         (by rw[hl1];exact al1 hk hx hrows _) (by rw[hl1,eP];exact hi) (by rw[hvx];exact h3) (fun m=>by rw[Nat.add_assoc,Nat.add_comm 1 m,hp (m+1)];congr 1;omega)
        refine⟨w',?_,h6,h4.trans h7,h8,by rw[h9,hl1,eP]⟩
        simp only[storeCells,hp0,Sem.run_bind,run_store P w _ v _ hone,hu,hfr,Result.andThen_ok,Bool.false_eq_true,if_false]
        exact h5
       cases k with
       | none=>
         cases c<;>simp only[dO] at hput<;>first | cases hput | skip
         rename_i x
         have hvx:v=.bool (x.B U):=(Option.some.inj hc).symm
         exact step (b2i (x.B U)) _ (by rw[hvx];simp only[gM];cases x.B U<;>rfl) (ag6 _) rfl hput
       | some kd=>
         cases c<;>simp only[dO] at hput<;>first | cases hput | skip
         rename_i k' x
         split at hput
         ·rename_i hkk
          simp only[thm0] at hkk
          have hvx:v=.int k' (x.I U):=(Option.some.inj hc).symm
          exact step (x.I U) _ (by rw[hvx,az hkk.1];rfl) (E.rng_ok hv x hkk.2) rfl hput
         ·cases hput
theorem aaY (hT:∀t i,(t,i)∈cx.ty->TIok P t i) {t:Nat} {x y:Operand} {kw:Kw} (hop:o.op=.store t x y) {id esz off:Nat} {e:E} (hx:vw.ev x=some (.one (.ep id esz e off))) {v:V} (hy:vw.ev y=some v) {i:TI} (hi:av t cx.ty=some i)
  {r:RowOb} (hr:vw.sw id=some r) (hrown:r.own=true) (hks:r.ks.length=esz) (hf:v.flat=true) (hn:v.cells.length=i.size) (hoff:off+i.size<=esz)
  (h:(decK (inB e r.l) (fun b kw=>if b then
      (match dO kw.vk r.l e off (r.ks.drop off) v.cells with
       | some l=>k {val:=.one .undef,rr:=[id],re:=.set id {r with l:=l}} kw
       | none=>.stuck 57)
      else .stuck 58) kw).holds sp G U I) (hg:Good sp cx.sm U kw):Sound P sp U G I base cx vw o k kw:=by
 obtain⟨kw',h1,g1,_,l1⟩:=aY _ _ _ h hg
 rw[xW] at h1
 have ht:=hT _ _ (an hi)
 split at h1
 ·rename_i hb
  simp only[thm0,bl] at hb
  split at h1
  ·rename_i l hl
   refine⟨_,kw',h1,g1,l1,fun j a w _ hev hrd hwr hrr hfb K Q hK=> ?_⟩
   obtain⟨s,hs,hok⟩:=hrr.sl id (by simp) r hr
   obtain⟨p,hp,he⟩:=vL hs (hev x (by simp[hop,Op.operands]) _ hx)
   have hd:=V.cells_ok (hev y (by simp[hop,Op.operands]) v hy) hf
   have hown:=hok.own hrown
   obtain⟨g,rfl,hsv⟩:=aaa hown hp
   rw[hsv] at hown
   obtain⟨w',h2,h3,h4,h5,h6⟩:=gv (P:=P) g1.vk (r.ks.drop off) v.cells r.l l off 0 _ w ((⟨g,0,none⟩:Addr).add ((e.I U).toNat*esz+off)) hl hd r.ks (fun m=>by rw[List.getElem?_drop]) hok.rows (by omega) hown
    (fun m=>by rw[bX,ba,hks];congr 1;omega)
   have hsz:(a.eval y).cells.size=i.size:=by
    have:=aL hd
    rw[Array.length_toList,hn] at this
    exact this
   refine sT (w':=w') ?_ (hK _ j w' rfl ⟨rfl,s,hs,?_,RowOk.mk_own (r:={r with l:=l}) (Vw.sw_some hr).2 (by rw[hok.n];exact h6.symm) h5 hok.pos (by rw[hsv];exact h3),fun e=>by rw[show r.kd=.sl from(Vw.sw_some hr).2] at e;cases e⟩)
   ·simp[execOp,hop,he,Instr.storeAt,Instr.sureAddr,Sem.run_bind,storeVar,ht.size,hsz,h2]
   ·rw[hsv];exact h4
  ·exact h1.elim
 ·exact h1.elim
end
section
variable {P:Program} {sp:Spec} {U:Env} {G:Env->E->Prop} {I:Nat->List Dt->Prop} {base:Nat} {cx:Cx} {vw:Vw} {o:Oper} {k:Eff->Kw->Tr}
def qD:List Value->Nat->List Value->List Value
 | cs,_,[]=>cs
 | cs,off,v::r=>qD (cs.set off v) (off+1) r
theorem uf {j:J}:∀{vs:List C} {us:List Value} {cs:List C} {ws:List Value} {off:Nat},denL U j vs=some us->denL U j cs=some ws->denL U j (ip cs off vs)=some (qD ws off us)
 | [],us,cs,ws,off,h,h'=>by cases h;exact h'
 | v::vs,us,cs,ws,off,h,h'=>by
   simp only[denL] at h
   cases hc:v.den U j with
   | none=>rw[hc] at h;cases h
   | some u=>
     cases hl:denL U j vs with
     | none=>rw[hc,hl] at h;cases h
     | some l=>
       rw[hc,hl] at h;cases h
       exact uf (vs:=vs) (us:=l) hl (sK h' off v u hc)
theorem vF (off:Nat):∀(l:List Value) (m:Nat) (cells:Array Value),((l.zipIdx m).foldl (fun cs (p:Value×Nat)=>cs.setIfInBounds (off+p.2) p.1) cells).toList=qD cells.toList (off+m) l
 | [],m,cells=>rfl
 | v::l,m,cells=>by
   simp only[List.zipIdx_cons,List.foldl_cons]
   rw[vF off l (m+1)]
   simp[qD,Nat.add_assoc]
theorem sH {j:J} {pl:Nat->Option (Nat×Nat)}:∀(parts:List (Nat×V)) (cs cs':List C) (us:List (Nat×Value)) (cells:Array Value),yb pl cs parts=some cs'->denL U j cs=some cells.toList->(parts.map (·.1)=us.map (·.1))->
  (∀(i:Nat) p u,parts[i]? =some p->us[i]? =some u->p.2.den U j=some u.2)->∃cells',Instr.fill pl cells us=some cells'/\denL U j cs'=some cells'.toList
 | [],cs,cs',us,cells,h,hd,hm,hu=>by
   cases us with
   | nil=>cases h;exact⟨cells,rfl,hd⟩
   | cons _ _=>simp at hm
 | (i,v)::parts,cs,cs',us,cells,h,hd,hm,hu=>by
   cases us with
   | nil=>simp at hm
   | cons u us=>
     obtain⟨i',u⟩:=u
     simp only[List.map_cons,thm5] at hm
     obtain⟨rfl,hm⟩:=hm
     simp only[yb] at h
     split at h
     ·rename_i off size hp
      split at h
      ·rename_i hc
       simp only[thm0,bl] at hc
       obtain⟨h1,h2,h3⟩:=hc
       have hv:=hu 0 _ _ rfl rfl
       have hcells:=V.cells_ok hv h1
       have hl1:=aL hcells
       have hl2:=aL hd
       rw[thm1 h2] at hl1
       simp only[Array.length_toList] at hl1 hl2
       have hrow:denL U j (ip cs off v.cells)=some ((u.cells.zipIdx.foldl (fun cs (p:Value×Nat)=>cs.setIfInBounds (off+p.2) p.1) cells)).toList:=by
        rw[<-Array.foldl_toList,Array.toList_zipIdx,vF]
        exact uf hcells hd
       obtain⟨cells',h5,h6⟩:=sH parts _ cs' us _ h hrow hm (fun i p w hp' hw=>hu (i+1) p w (by simpa using hp') (by simpa using hw))
       refine⟨cells',?_,h6⟩
       unfold Instr.fill
       have hc1:¬(u.cells.size≠size||decide (off+u.cells.size>cells.size))=true:=by simp;omega
       simp only[hp]
       rw[if_neg hc1]
       exact h5
      ·cases h
     ·cases h
theorem agC {ev:Operand->Option V} {j:J} {a:Act}:∀{l:List (Nat×Operand)} {vs:List (Nat×V)},evP ev l=some vs->(∀x∈l.map (·.2),∀v,ev x=some v->v.den U j=some (a.eval x))->
  vs.map (·.1)=(l.map fun p=>(p.1,a.eval p.2)).map (·.1)/\∀(i:Nat) p u,vs[i]? =some p->(l.map fun p=>(p.1,a.eval p.2))[i]? =some u->p.2.den U j=some u.2
 | [],vs,h,hev=>by cases h;exact⟨rfl,fun i p u hp=>by simp at hp⟩
 | (n,x)::l,vs,h,hev=>by
   simp only[evP] at h
   cases hc:ev x with
   | none=>rw[hc] at h;cases h
   | some v=>
     cases hl:evP ev l with
     | none=>rw[hc,hl] at h;cases h
     | some us=>
       rw[hc,hl] at h;cases h
       obtain⟨h1,h2⟩:=agC (a:=a) (j:=j) hl (fun y hy=>hev y (bZ _ hy))
       refine⟨by simp[h1],fun i p u hp hu=> ?_⟩
       cases i with
       | zero=>
         simp at hp hu
         subst hp hu
         exact hev x bA v hc
       | succ i=>exact h2 i p u (by simpa using hp) (by simpa using hu)
theorem aal (z:Array Value) (n:Nat):(madeCells z (n*z.size)).toList=(List.replicate n z.toList).flatten:=by
 have hf:(madeCells z (n*z.size)).toList=(List.range (n*z.size)).map (fun i=>z[i % z.size]!):=by simp[madeCells]
 rw[hf]
 clear hf
 induction n with
 | zero=>simp
 | succ n ih=>
   rw[Nat.succ_mul,List.range_add,List.map_append,ih,List.replicate_succ',List.flatten_concat]
   congr 1
   apply List.ext_getElem?
   intro i
   by_cases hi:i<z.size
   ·have:(n*z.size+i) % z.size=i:=by rw[Nat.add_comm,Nat.add_mul_mod_self_right,Nat.mod_eq_of_lt hi]
    simp[hi,this]
   ·simp[hi]
theorem rZ {j:J} {vk:List VK} (hv:Vk U vk):∀{ks:List CE} {cs:List C} {r:E} {vs:List Value},cs.all (C.rng vk)=true->abe ks cs=some r->denL U j cs=some vs->vs=rowV ks (r.L U)/\aD ks (r.L U)=true
 | [],[],r,vs,_,h,hd=>by cases h;cases hd;exact⟨rfl,rfl⟩
 | some k::ks,.int k' x::cs,r,vs,hr,h,hd=>by
   simp only[abe] at h
   simp only[List.all_cons,thm0] at hr
   split at h
   ·rename_i hk
    rw[thm4] at h
    obtain⟨t,ht,rfl⟩:=h
    simp only[denL,C.den] at hd
    cases hl:denL U j cs with
    | none=>rw[hl] at hd;cases hd
    | some us=>
      rw[hl] at hd;cases hd
      obtain⟨h1,h2⟩:=rZ hv hr.2 ht hl
      refine⟨by simp only[E.L,rowV,gM];rw[h1,az hk],?_⟩
      simp only[E.L,aD,inCE,thm0]
      exact⟨E.rng_ok hv x (by have h9:x.rng vk k'=true:=hr.1;rw[az hk] at h9;exact h9),h2⟩
   ·cases h
 | none::ks,.bool x::cs,r,vs,hr,h,hd=>by
   simp only[List.all_cons,thm0] at hr
   simp only[abe,thm4] at h
   obtain⟨t,ht,rfl⟩:=h
   simp only[denL,C.den] at hd
   cases hl:denL U j cs with
   | none=>rw[hl] at hd;cases hd
   | some us=>
     rw[hl] at hd;cases hd
     obtain⟨h1,h2⟩:=rZ hv hr.2 ht hl
     refine⟨by simp only[E.L,rowV,gM];rw[h1];congr 2;cases x.B U<;>rfl,?_⟩
     simp only[E.L,aD,thm0]
     exact⟨ag6 _,h2⟩
theorem oh {j:J} {vk:List VK} (hv:Vk U vk) {ks:List CE} {cs:List C} {r:E} {vs:List Value} (h:rowE vk ks cs=some r) (hd:denL U j cs=some vs):vs=rowV ks (r.L U)/\aD ks (r.L U)=true:=by
 unfold rowE at h
 cases hr:rngs vk cs vk 0 with
 | false=>rw[hr] at h;cases h
 | true=>rw[hr] at h;exact rZ hv (rngs_ok cs vk 0 rfl hr) h hd
theorem zJ {j:J} {vk:List VK} (hv:Vk U vk) {ks:List CE}:∀(n:Nat) {cs:List C} {l:E} {vs:List Value},abc vk ks n cs=some l->denL U j cs=some vs->vs=flat ks (l.R U)/\(l.R U).length=n/\∀r∈l.R U,aD ks r=true
 | 0,[],l,vs,h,hd=>by cases h;cases hd;exact⟨rfl,rfl,fun r hr=>by cases hr⟩
 | 0,_::_,l,vs,h,hd=>by simp[abc] at h
 | n+1,cs,l,vs,h,hd=>by
   simp only[abc] at h
   split at h
   ·rename_i r l' hr hl
    cases h
    obtain⟨h1,h2⟩:=oh hv hr (kq hd _)
    obtain⟨h3,h4,h5⟩:=zJ hv n hl (gK hd _)
    rw[agN,cK,<-h1,<-h3]
    refine⟨by rw[List.take_append_drop],by simp[h4],fun x hx=> ?_⟩
    rcases List.mem_cons.1 hx with rfl | hx
    ·exact h2
    ·exact h5 x hx
   ·cases h
theorem xS {ks:List CE}:kdOf ks≠.tab:=by
 rcases bC ks with⟨_,h⟩ | ⟨_,h⟩<;>rw[h]<;>simp
theorem Ext.of_grown {w w':World} (h:w.grownBy w' none):Ext w w':=Below.grown (Ext.refl w) h (Nat.le_refl _) (fun k hk=>by cases hk)
theorem pH {U:Env} {base nid:Nat} {w w':World} {j:J} {u:SV} {r:RowOb} {v:V} (hx:Ext w w') (hr:RowOk U w.heap.size w' u r) (ho:r.own=true) {eff:Eff} (he:eff={val:=v,rd:=eff.rd,rr:=eff.rr,re:=.mk [r]}) (hz:u.z=[]:=by first | rfl | assumption) (ht:r.kd=.tab->∀jj,TbAt U jj w' u r:=by first | (intro h;cases h;done) | (intro h;exact absurd h xS)):Does U base nid eff j w (j.putL nid [u]) w':=by
 rw[he]
 refine⟨hx,[u],rfl,fun i u' r' h1 h2=> ?_,fun i i' u1 u2 k h1 h2 _ _=> ?_,fun u' hu'=>NewZ.nil (by rw[dk.1 hu'];exact hz),by simp[hz,J.addzs]⟩
 ·cases i with
  | zero=>simp at h1 h2;subst h1 h2;exact⟨hr,ho,ht⟩
  | succ i=>simp at h1
 ·cases i with
  | zero=>
    cases i' with
    | zero=>rfl
    | succ i'=>simp at h2
  | succ i=>simp at h1
theorem aka {U:Env} {j:J} {nid:Nat} {u:SV}:(V.one (.sl nid)).den U (j.putL nid [u])=some u.v:=by
 simp[V.den,C.den,J.putL]
theorem al8 {U:Env} {j:J} {nid:Nat} {u:SV}:(V.one (.sl nid)).den U (j.putS nid u)=some u.v:=by
 simp[V.den,C.den,J.putS]
theorem o3 (hT:∀t i,(t,i)∈cx.ty->TIok P t i) {t n:Nat} {ps:Array (Nat×Operand)} {kw:Kw} (hop:o.op=.buildSlice t n ps) {parts:List (Nat×V)} (hps:evP vw.ev ps.toList=some parts) {i:TI} (hi:av t cx.ty=some i) {et:Nat} (ha:i.sle=some et) {ie:TI} (hie:av et cx.ty=some ie)
  {ks:List CE} {cs:List C} (hfill:yb (fun m=>some (m*ie.size,ie.size)) ((List.replicate n ie.zero).flatten) parts=some cs) {l:E} (hl:abc kw.vk ks n cs=some l) (hq:n*ie.size<=16777216/\0<ie.size/\ks.length=ie.size)
  (h:(k {val:=.one (.sl vw.nid),re:=.mk [⟨ks,et,l,true,.sl⟩]} kw).holds sp G U I) (hg:Good sp cx.sm U kw):Sound P sp U G I base cx vw o k kw:=by
 refine⟨_,kw,h,hg,.refl _,fun j a w hb hev hrd hwr hrr hfb K Q hK=> ?_⟩
 obtain⟨h1,h2⟩:=agC (a:=a) (j:=j) hps (fun x hx=>hev x (by
  simp only[hop,Op.operands]
  simpa using hx))
 have h3:(ps.map fun p=>(p.1,a.eval p.2)).toList=ps.toList.map fun p=>(p.1,a.eval p.2):=Array.toList_map ..
 have hx:execOp a.eval o=(do let v <-Instr.buildSlice t n (ps.map fun p=>(p.1,a.eval p.2));pure (.value v)):=by simp only[execOp,hop]
 have hu:=(hT _ _ (an hi)).sle et ha
 have hte:=hT _ _ (an hie)
 have hsz:=hte.size
 obtain⟨inf,z,hinf,hisz,_,hz,hzl,hzd⟩:=hte.info
 have hzs:z.cells.size=ie.size:=by simpa using hzl
 have zer:denL U j ((List.replicate n ie.zero).flatten)=some (madeCells z.cells (n*ie.size)).toList:=by
  rw[<-hzs,aal]
  have:∀n,denL U j ((List.replicate n ie.zero).flatten)=some ((List.replicate n z.cells.toList).flatten):=by
   intro n
   induction n with
   | zero=>rfl
   | succ n ih=>
     simp only[List.replicate_succ,List.flatten_cons]
     exact fH (hzd U j) ih
  exact this n
 obtain⟨cells,h4,h5⟩:=sH (j:=j) parts _ cs _ (madeCells z.cells (n*ie.size)) hfill zer h1 h2
 obtain⟨h6,h7,h8⟩:=zJ hg.vk n hl h5
 have hmax:n<=maxLen:=by
  have:n*1<=n*ie.size:=Nat.mul_le_mul_left n hq.2.1
  simp only[maxLen];omega
 have hcs:cells.size=n*ks.length:=by
  have:=congrArg List.length h6
  rw[bW h8,h7] at this
  simpa using this
 have own:=World.ownsRow_lit (base:=w.heap.size) (e:=et) (size:=ks.length) w cells n (Nat.le_refl _) hmax hcs
 rw[h6] at own
 refine dD (w':=w.alloc (.cells cells et)) (v:=(⟨some ⟨w.heap.size,0,none⟩,n,n,[]⟩:SV).v) ?_ (hK _ (j.putL vw.nid [⟨some ⟨w.heap.size,0,none⟩,n,n,[]⟩]) _ aka (pH (Ext.of_grown (World.grownBy_alloc w _ none)) (RowOk.mk_own rfl h7.symm ⟨h8,by rw[h7];exact hmax⟩ (by simp only;omega) own) rfl rfl))
 rw[hx]
 have hbig:¬(16777216<n*ie.size):=by omega
 by_cases hn0:n*ie.size=0
 ·have hn:n=0:=by
   rcases Nat.mul_eq_zero.1 hn0 with h | h
   ·exact h
   ·omega
  subst hn
  have h4':Instr.fill (fun m=>some (m*ie.size,ie.size)) #[] (ps.toList.map fun p=>(p.1,a.eval p.2))=some cells:=by
   rw[<-h4];congr 1
   simp[madeCells]
  simp[Instr.buildSlice,Sem.run_bind,run_underlying hu,hsz,h3,Array.range_zero',h4',newRow,SV.v]
 ·simp only[madeCells] at h4
  simp[Instr.buildSlice,Sem.run_bind,run_underlying hu,hsz,h3,hbig,hn0,zeroValue,typeInfo,hinf,hz,h4,newRow,SV.v]
end
section
variable {P:Program} {sp:Spec} {U:Env} {G:Env->E->Prop} {I:Nat->List Dt->Prop} {base:Nat} {cx:Cx} {vw:Vw} {o:Oper} {k:Eff->Kw->Tr}
theorem ahP {j:J} {id:Nat} {s:SV} {v:Value} (hs:j.s id=some s) (h:(V.one (.sl id)).den U j=some v):v=s.v:=by
 simp only[V.den,C.den,hs,Option.map_some,bh] at h
 exact h.symm
theorem akF {j:J} {v:Value} (h:(V.one .nsl).den U j=some v):v=.slice none 0 0:=(Option.some.inj h).symm
theorem SlOk.shut {w:World} {s:SV} {r:RowOb} (h:SlOk U base w s r):SlOk U base w s {r with own:=false}:=⟨h.n,h.rows,h.pos,fun k hk=>h.lt k (bo hk),fun ho=>(by cases ho),h.rd⟩
theorem aou {kw:Kw} {l:E} (hl:(l.R U).length<=maxLen):(lenE kw.vk l).I U=((l.R U).length:Int):=by
 have h:=gG U l
 unfold lenE
 split
 ·rename_i z hz;rw[hz] at h;exact h
 ·rename_i e hne
  split
  ·exact h
  ·show IntKind.i64.wrap _=_
   rw[h]
   refine ab3 ?_
   rw[bp]
   simp only[maxLen] at hl
   simp only[IntKind.min,IntKind.max,IntKind.signed,IntKind.bits]
   simp
   omega
theorem al5 (hT:∀t i,(t,i)∈cx.ty->TIok P t i) {c:Call} {kw:Kw} (hop:o.op=.call c) (hc:c.callee=.builtin .len) {id t:Nat} (hl:evL vw.ev c.args.toList=some [.one (.sl id)]) (hty:c.argTypes.toList=[t]) {i:TI} (hi:av t cx.ty=some i) (hsl:i.sle.isSome=true) {r:RowOb} (hr:vw.sw id=some r)
  (h:(k {val:=.one (.int .i64 (lenE kw.vk r.l)),rr:=[id]} kw).holds sp G U I) (hg:Good sp cx.sm U kw):Sound P sp U G I base cx vw o k kw:=by
 refine⟨_,kw,h,hg,.refl _,OpOk.pure fun j a w _ hev _ hrr _=> ?_⟩
 obtain⟨s,hs,hok⟩:=hrr.sl id (by simp) r hr
 obtain⟨h1,h2⟩:=gJ (j:=j) (a:=a) hl (fun x hx=>hev x (by simp[hop,Op.operands,Call.operands];exact .inr (by simpa using hx)))
 have h3:c.args.map a.eval = #[s.v]:=by
  have:c.args.toList.map a.eval=[s.v]:=by
   match hm:c.args.toList.map a.eval,h2 with
   | [u],_=>rw[hm] at h1;rw[ahP hs (h1 0 _ u rfl rfl)]
  rw[<-Array.toArray_toList (xs:=c.args.map a.eval),Array.toList_map,this]
 obtain⟨et,het⟩:=Option.isSome_iff_exists.1 hsl
 have hu:=(hT _ _ (an hi)).sle et het
 have hat:c.argTypes = #[t]:=by rw[<-Array.toArray_toList (xs:=c.argTypes),hty]
 have hle:(r.l.R U).length<=maxLen:=hok.rows.len
 refine⟨.int .i64 (s.n:Int),by rw[hok.n];simp[V.den,C.den,aou hle],?_⟩
 simp[execOp,hop,resolve,hc,h3,hat,Sem.run_bind,invoke,builtin,Builtin.len_,run_underlying hu,SV.v,goInt]
theorem ahM (hT:∀t i,(t,i)∈cx.ty->TIok P t i) {c:Call} {kw:Kw} (hop:o.op=.call c) (hc:c.callee=.builtin .len) {t:Nat} (hl:evL vw.ev c.args.toList=some [.one .nsl]) (hty:c.argTypes.toList=[t]) {i:TI} (hi:av t cx.ty=some i) (hsl:i.sle.isSome=true)
  (h:(k {val:=.one (.int .i64 (.lit 0))} kw).holds sp G U I) (hg:Good sp cx.sm U kw):Sound P sp U G I base cx vw o k kw:=by
 refine⟨_,kw,h,hg,.refl _,OpOk.pure fun j a w _ hev _ hrr _=> ?_⟩
 obtain⟨h1,h2⟩:=gJ (j:=j) (a:=a) hl (fun x hx=>hev x (by simp[hop,Op.operands,Call.operands];exact .inr (by simpa using hx)))
 have h3:c.args.map a.eval = #[.slice none 0 0]:=by
  have:c.args.toList.map a.eval=[.slice none 0 0]:=by
   match hm:c.args.toList.map a.eval,h2 with
   | [u],_=>rw[hm] at h1;rw[akF (h1 0 _ u rfl rfl)]
  rw[<-Array.toArray_toList (xs:=c.args.map a.eval),Array.toList_map,this]
 obtain⟨et,het⟩:=Option.isSome_iff_exists.1 hsl
 have hu:=(hT _ _ (an hi)).sle et het
 have hat:c.argTypes = #[t]:=by rw[<-Array.toArray_toList (xs:=c.argTypes),hty]
 refine⟨.int .i64 0,rfl,?_⟩
 simp[execOp,hop,resolve,hc,h3,hat,Sem.run_bind,invoke,builtin,Builtin.len_,run_underlying hu,goInt]
theorem akz {w:World} {base ty esz n:Nat} {v:Value} {xs:List Value} (h:w.ownsRow base ty esz v n xs):∃s:SV,v=s.v/\s.n=n/\s.z=[]:=by
 rcases h.2 with⟨rfl,rfl⟩ | ⟨g,cap,cur,rfl,_⟩
 ·exact⟨⟨none,0,0,[]⟩,rfl,rfl,rfl⟩
 ·exact⟨⟨some ⟨g,0,none⟩,n,cap,[]⟩,rfl,rfl,rfl⟩
theorem gz {w:World} {base t ty e:Nat} {inf:TypeInfo} {z:Value} (ht:P.underlying t=some (.slice e)) (hi:P.info? e=some inf) (hz:inf.zero=some z) (hzs:z.cells.size=inf.size) (hsz:0<inf.size) {v:Value} {n:Nat} {xs:List Value} (hown:w.ownsRow base e inf.size v n xs)
  {x:SV} {news:List Value} (hrd:RdRow w inf.size x news) (h1:∀u∈news,u.oneCell'=true) (h63:n+x.n<=maxLen) (hbytes:(n+x.n)*inf.bytes<=140737488355328) (hbase:base<=w.heap.size):
  ∃s' w',(Builtin.append_ #[t,t] ty #[v,x.v]).run P w=.ok (SV.v s') w'/\s'.n=n+x.n/\w'.ownsRow base e inf.size s'.v (n+x.n) (xs++news)/\w.grownBy w' v.ownBlock/\(s'.v.ownBlock=v.ownBlock\/s'.v.ownBlock=some w.heap.size)/\s'.z=[]:=by
 obtain⟨xa,xn,xc,xz⟩:=x
 cases xa with
 | none=>
   obtain⟨h2,h3⟩:=hrd.2.2.2.1 rfl
   simp only at h2 h3
   subst h2 h3
   have hnil:news=[]:=by
    have:=hrd.1
    simp only[Nat.zero_mul] at this
    exact List.eq_nil_of_length_eq_zero this
   subst hnil
   obtain⟨s,rfl,hn,hsz⟩:=akz hown
   exact⟨s,w,run_append_owned_none w base t ty e inf inf.size ht hi _ n xs hown,hn,by simpa using hown,⟨rfl,rfl,rfl,Nat.le_refl _,fun _ _ _=>rfl⟩,.inl rfl,hsz⟩
 | some a=>
   obtain⟨v',w',hr,h2,h3,_,h5⟩:=run_append_own_at (P:=P) w base t ty e inf z inf.size inf.bytes ht hi hz rfl rfl hzs hsz v n xs hown a xn xc news hrd.1 (fun j u hj=>hrd.2.2.2.2 a rfl j u hj) h1 h63 hbytes hbase
   obtain⟨s,rfl,hn,hsz⟩:=akz h2
   exact⟨s,w',hr,hn,h2,h3,h5,hsz⟩
theorem arg {c:Call} {a:Act} {j:J} {v1 v2:V} (hl:evL vw.ev c.args.toList=some [v1,v2]) (hev:∀x∈c.args.toList,∀v,vw.ev x=some v->v.den U j=some (a.eval x)):∃u1 u2,c.args.map a.eval = #[u1,u2]/\v1.den U j=some u1/\v2.den U j=some u2:=by
 obtain⟨h1,h2⟩:=gJ (j:=j) (a:=a) hl hev
 match hm:c.args.toList.map a.eval,h2 with
 | [u1,u2],_=>
   rw[hm] at h1
   exact⟨u1,u2,by rw[<-Array.toArray_toList (xs:=c.args.map a.eval),Array.toList_map,hm],h1 0 _ u1 rfl rfl,h1 1 _ u2 rfl rfl⟩
theorem arc (U:Env) (a b:E):(catE a b).R U=a.R U++b.R U:=by
 unfold catE
 split
 ·simp[E.R]
 ·split<;>simp[E.R]
theorem wy (hT:∀t i,(t,i)∈cx.ty->TIok P t i) {c:Call} {kw:Kw} (hop:o.op=.call c) (hc:c.callee=.builtin .append) {id t:Nat} (hl:evL vw.ev c.args.toList=some [.one .nsl,.one (.sl id)]) (hty:c.argTypes.toList=[t,t]) {i:TI} (hi:av t cx.ty=some i) {et:Nat} (ha:i.sle=some et) {ie:TI} (hie:av et cx.ty=some ie)
  {r:RowOb} (hr:vw.sw id=some r) (hq:r.ty=et/\r.ks.length=ie.size/\0<ie.size/\ie.bytes<=65536)
  (h:(decK (mkLt (eD r.l) (.lit bigB)) (fun b kw=>if b then k {val:=.one (.sl vw.nid),rr:=[id],re:=.mk [⟨r.ks,et,r.l,true,.sl⟩]} kw else .panic) kw).holds sp G U I) (hg:Good sp cx.sm U kw):Sound P sp U G I base cx vw o k kw:=by
 obtain⟨kw1,h1,g1,_,l1⟩:=aY _ _ _ h hg
 rw[eh,gG] at h1
 split at h1
 ·rename_i hbig
  have hbig':((r.l.R U).length:Int)<1073741824:=thm3 hbig
  refine⟨_,kw1,h1,g1,l1,fun j a w hb hev hrd hwr hrr hfb K Q hK=> ?_⟩
  obtain⟨s,hs,hok⟩:=hrr.sl id (by simp) r hr
  obtain⟨u1,u2,hargs,hd1,hd2⟩:=arg (j:=j) (a:=a) hl (fun x hx=>hev x (by simp[hop,Op.operands,Call.operands];exact .inr (by simpa using hx)))
  have e1:=akF hd1
  have e2:=ahP hs hd2
  subst e1 e2
  have hu:=(hT _ _ (an hi)).sle et ha
  obtain⟨inf,z,hinf,hisz,hbytes,hz,hzl,hzd⟩:=(hT _ _ (an hie)).info
  have hat:c.argTypes = #[t,t]:=by rw[<-Array.toArray_toList (xs:=c.argTypes),hty]
  have hn:=hok.n
  have hrd':=hok.rd
  rw[hq.2.1,<-hisz] at hrd'
  obtain⟨s',w',h2,h3,h4,h5,h6,h7⟩:=gz (P:=P) (base:=w.heap.size) (ty:=o.type) hu hinf hz (by rw[hisz];simpa using hzl) (by omega) (World.ownsRow_nil w w.heap.size et inf.size) hrd' aax (by simp only[maxLen];omega)
   (by
    have:(0+s.n)*inf.bytes<=1073741824*65536:=Nat.mul_le_mul (by omega) (by omega)
    omega) (Nat.le_refl _)
  simp only[bn,List.nil_append] at h3 h4
  rw[hisz,<-hq.2.1,<-h3] at h4
  refine dD (w':=w') (v:=s'.v) ?_ (hK _ (j.putL vw.nid [s']) _ aka (pH (Ext.of_grown h5) (RowOk.mk_own (r:=⟨r.ks,et,r.l,true,.sl⟩) rfl (by rw[h3];exact hn) hok.rows hok.pos h4) rfl rfl))
  simp only[execOp,hop,resolve,hc,hargs,hat,Sem.run_bind,Sem.run_pure,Result.andThen_ok,invoke,builtin,h2]
 ·exact h1.elim
theorem aa2 (hT:∀t i,(t,i)∈cx.ty->TIok P t i) {c:Call} {kw:Kw} (hop:o.op=.call c) (hc:c.callee=.builtin .append) {old id t:Nat} (hl:evL vw.ev c.args.toList=some [.one (.sl old),.one (.sl id)]) (hty:c.argTypes.toList=[t,t]) {i:TI} (hi:av t cx.ty=some i) {et:Nat} (ha:i.sle=some et) {ie:TI} (hie:av et cx.ty=some ie)
  {r q:RowOb} (hr:vw.sw id=some r) (hrq:vw.sw old=some q) (hq:r.ty=et/\r.ks.length=ie.size/\0<ie.size/\ie.bytes<=65536) (hq2:q.own=true/\q.ty=et/\q.ks=r.ks)
  (h:(decK (oB (mkLt (eD q.l) (.lit bigB)) (mkLt (eD r.l) (.lit bigB))) (fun b kw=>if b then k {val:=.one (.sl vw.nid),rr:=[old,id],re:=.app old ⟨r.ks,et,catE q.l r.l,true,.sl⟩} kw else .panic) kw).holds sp G U I) (hg:Good sp cx.sm U kw):Sound P sp U G I base cx vw o k kw:=by
 obtain⟨kw1,h1,g1,_,l1⟩:=aY _ _ _ h hg
 rw[eG,eh,eh,gG,gG] at h1
 split at h1
 ·rename_i hbig
  rw[thm0] at hbig
  have hb1:((q.l.R U).length:Int)<1073741824:=thm3 hbig.1
  have hb2:((r.l.R U).length:Int)<1073741824:=thm3 hbig.2
  refine⟨_,kw1,h1,g1,l1,fun j a w hb hev hrd hwr hrr hfb K Q hK=> ?_⟩
  obtain⟨s,hs,hok⟩:=hrr.sl id (by simp) r hr
  obtain⟨p,hp,hop'⟩:=hrr.sl old (by simp) q hrq
  obtain⟨u1,u2,hargs,hd1,hd2⟩:=arg (j:=j) (a:=a) hl (fun x hx=>hev x (by simp[hop,Op.operands,Call.operands];exact .inr (by simpa using hx)))
  have e1:=ahP hp hd1
  have e2:=ahP hs hd2
  subst e1 e2
  have hu:=(hT _ _ (an hi)).sle et ha
  obtain⟨inf,z,hinf,hisz,hbytes,hz,hzl,hzd⟩:=(hT _ _ (an hie)).info
  have hat:c.argTypes = #[t,t]:=by rw[<-Array.toArray_toList (xs:=c.argTypes),hty]
  have hn:=hok.n
  have hpn:=hop'.n
  have hown:=hop'.own hq2.1
  rw[hq2.2.1,hq2.2.2,hq.2.1,<-hisz] at hown
  have hrd':=hok.rd
  rw[hq.2.1,<-hisz] at hrd'
  obtain⟨s',w',h2,h3,h4,h5,h6,h7⟩:=gz (P:=P) (base:=base) (ty:=o.type) hu hinf hz (by rw[hisz];simpa using hzl) (by omega) hown hrd' aax (by simp only[maxLen];omega)
   (by
    have:(p.n+s.n)*inf.bytes<=2147483648*65536:=Nat.mul_le_mul (by omega) (by omega)
    omega) hb
  rw[<-xZ,hisz,<-hq.2.1,<-h3] at h4
  have hR:(catE q.l r.l).R U=q.l.R U++r.l.R U:=arc U _ _
  refine dD (w':=w') (v:=s'.v) ?_ (hK _ (j.putS vw.nid s') _ al8 ⟨p,s',hp,h5,RowOk.mk_own (r:=⟨r.ks,et,catE q.l r.l,true,.sl⟩) rfl ?_ ⟨fun x hx=> ?_,?_⟩ hok.pos (by simp only[hR];exact h4),h6,Zin.nil h7,rfl,fun e=>by cases e⟩)
  ·simp only[execOp,hop,resolve,hc,hargs,hat,Sem.run_bind,Sem.run_pure,Result.andThen_ok,invoke,builtin,h2]
  ·simp only[hR,eA];omega
  ·simp only[hR,List.mem_append] at hx
   rcases hx with hx | hx
   ·have:=hop'.rows.row x hx;rw[hq2.2.2] at this;exact this
   ·exact hok.rows.row x hx
  ·simp only[hR,eA,maxLen];omega
 ·exact h1.elim
end
open Go.Sort (mapBlock onCells setCell_eq mapBlock_mapBlock mapBlock_congr)
section
variable {P:Program} {sp:Spec} {U:Env} {G:Env->E->Prop} {I:Nat->List Dt->Prop} {base:Nat} {cx:Cx} {vw:Vw} {o:Oper} {k:Eff->Kw->Tr}
theorem agq (e:E) (n:Nat):(inR e n).B U=(decide (0<=e.I U)&&decide (e.I U<(n:Int))):=by
 unfold inR
 rw[eG,cJ,eh,eh]
 show(!decide (e.I U<0)&&decide (e.I U<(n:Int)))=_
 congr 1
 by_cases h:e.I U<0
 ·rw[fQ h,ij (by omega:¬0<=e.I U)];rfl
 ·rw[ij h,fQ (by omega:0<=e.I U)];rfl
theorem aah {j:J} {b o n sz:Nat} {e:E} {off fo:Nat} {v:Value} (h:(C.pe b o n sz e off).den U j=some v):∃a,v=.pointer (some a)/\(C.pe b o n sz e (off+fo)).den U j=some (.pointer (some (a.add fo))):=by
 simp only[C.den,thm4] at h
 obtain⟨kk,hk,rfl⟩:=h
 exact⟨_,rfl,by simp only[C.den,hk,Option.map_some,ba];congr 4;omega⟩
theorem qq {x:Operand} {kw:Kw} (hop:o.op=.nilCheck x) {b o0 n sz off:Nat} {e:E} (hx:vw.ev x=some (.one (.pe b o0 n sz e off))) (h:(k {val:=.one (.pe b o0 n sz e off)} kw).holds sp G U I) (hg:Good sp cx.sm U kw):Sound P sp U G I base cx vw o k kw:=by
 refine⟨_,kw,h,hg,.refl _,OpOk.pure fun j a w _ hev _ _ _=>⟨a.eval x,hev x (by simp[hop,Op.operands]) _ hx,?_⟩⟩
 have hd:=hev x (by simp[hop,Op.operands]) _ hx
 obtain⟨a',he,_⟩:=aah (fo:=0) (show(C.pe b o0 n sz e off).den U j=some (a.eval x) from hd)
 simp[execOp,hop,he]
theorem an6 {j:J} {b o n sz off:Nat} {e:E} {v:Value} (h:(V.one (.pe b o n sz e off)).den U j=some v):∃kk,j.b b=some kk/\v=.pointer (some ⟨kk,o+((e.I U).toNat*sz+off),none⟩):=by
 simp only[V.den,C.den,thm4] at h
 obtain⟨kk,h1,h2⟩:=h
 exact⟨kk,h1,h2.symm⟩
theorem tX (hT:∀t i,(t,i)∈cx.ty->TIok P t i) {t:Nat} {x y:Operand} {kw:Kw} (hop:o.op=.indexAddr t x y) {b off:Nat} (hx:vw.ev x=some (.one (.ptr b off))) {k0:IntKind} {e:E} (hy:vw.ev y=some (.one (.int k0 e))) {i:TI} (hi:av t cx.ty=some i)
  {n et:Nat} (ha:i.arr=some (n,et)) {ie:TI} (hie:av et cx.ty=some ie)
  (h:(decK (inR e n) (fun ok kw=>if ok then k {val:=.one (.pe b off n ie.size e 0)} kw else .panic) kw).holds sp G U I) (hg:Good sp cx.sm U kw):Sound P sp U G I base cx vw o k kw:=by
 obtain⟨kw1,g1,q1,_,l1⟩:=aY _ _ _ h hg
 rw[agq] at g1
 split at g1
 ·rename_i hr
  rw[thm0,bl,bl] at hr
  have hu:=(hT _ _ (an hi)).arr n et ha
  have hs:=(hT _ _ (an hie)).size
  refine⟨_,kw1,g1,q1,l1,OpOk.pure fun j a w _ hev _ _ _=> ?_⟩
  obtain⟨kk,hk,he⟩:=ke (hev x (by simp[hop,Op.operands]) _ hx)
  have hq:=cu (hev y (by simp[hop,Op.operands]) _ hy)
  refine⟨.pointer (some ⟨kk,off+((e.I U).toNat*ie.size+0),none⟩),by simp[V.den,C.den,hk],?_⟩
  have hadd:(⟨kk,off,none⟩:Addr).add ((e.I U).toNat*ie.size)=⟨kk,off+((e.I U).toNat*ie.size+0),none⟩:=by rw[ba];simp
  simp[execOp,hop,he,hq,Instr.indexAt,run_underlying hu,Instr.sureAddr,asIntOf,hr,hs,Sem.run_bind,hadd]
 ·exact g1.elim
theorem agO {j:J} {k0:IntKind} {sz c:Nat}:∀(n:Nat) (cs:List C) (l:E) (vs:List Value),colE k0 sz c n cs=some l->denL U j cs=some vs->∀m,m<n->vs[m*sz+c]? =some (.int k0 ((l.L U).getD m 0))
 | 0,cs,l,vs,_,_,m,hm=>absurd hm (by omega)
 | n+1,cs,l,vs,h,hd,m,hm=>by
   simp only[colE] at h
   split at h
   ·rename_i k' a t h1 h2
    split at h
    ·rename_i hk
     cases h
     cases m with
     | zero=>
       obtain⟨v,h3,h4⟩:=cq hd c _ h1
       rw[Nat.zero_mul,bn,h3,<-h4,az hk]
       simp[C.den,E.L]
     | succ m=>
       have ih:=agO n _ t _ h2 (gK hd sz) m (by omega)
       rw[List.getElem?_drop] at ih
       rw[show(m+1)*sz+c=sz+(m*sz+c) by rw[Nat.succ_mul];omega,ih]
       simp[E.L]
    ·cases h
   ·cases h
theorem sL {j:J} {e:E} {n sz:Nat} {cs:List C} {vs:List Value} (hd:denL U j cs=some vs) (h0:0<=e.I U) (h1:e.I U<(n:Int)):∀(m c:Nat) (ds:List C),yh e n sz cs c m=some ds->ds.length=m/\denL U j ds=some ((vs.drop ((e.I U).toNat*sz+c)).take m)
 | 0,c,ds,h=>by cases h;simp[denL]
 | m+1,c,ds,h=>by
   simp only[yh] at h
   split at h
   ·rename_i k0 a hc
    split at h
    ·rename_i l r h2 h3
     cases h
     obtain⟨e1,e2⟩:=sL hd h0 h1 m (c+1) r h3
     have e3:=agO n cs l vs h2 hd (e.I U).toNat (by omega)
     refine⟨by simp[e1],?_⟩
     simp only[denL,C.den,E.I,e2]
     have hlt:=(bR.1 e3).1
     rw[List.drop_eq_getElem_cons hlt,List.take_succ_cons,(bR.1 e3).2]
     rfl
    ·cases h
   ·cases h
theorem adk (hT:∀t i,(t,i)∈cx.ty->TIok P t i) {t:Nat} {x:Operand} {kw:Kw} (hop:o.op=.load t x) {b o0 n sz off:Nat} {e:E} (hx:vw.ev x=some (.one (.pe b o0 n sz e off))) {i:TI} (hi:av t cx.ty=some i) {cs:List C} (hcs:vw.row b o0 (n*sz)=some cs) (hsz:off+i.size<=sz)
  (h:(decK (inR e n) (fun ok kw=>if ok then
      (match yh e n sz cs off i.size with
      | some ds=>if i.agg then k {val:=.agg ds,rd:=cP b o0 (n*sz)} kw else(match ds with
        | [d]=>k {val:=.one d,rd:=cP b o0 (n*sz)} kw
        | _=>.stuck 160)
      | none=>.stuck 161)
      else .stuck 162) kw).holds sp G U I) (hg:Good sp cx.sm U kw):Sound P sp U G I base cx vw o k kw:=by
 obtain⟨kw1,g1,q1,_,l1⟩:=aY _ _ _ h hg
 rw[agq] at g1
 split at g1
 ·rename_i hr
  rw[thm0,bl,bl] at hr
  have ht:=hT _ _ (an hi)
  have hrow:=vw.rowok _ _ _ _ hcs
  split at g1
  ·rename_i ds hds
   have cells:∀{j:J} {w:World} {kk:Nat},j.b b=some kk->RdOk U j w vw.ld (cP b o0 (n*sz))->∃us,denL U j ds=some us/\us.length=i.size/\∀(m:Nat) u,us[m]? =some u->w.cell? ⟨kk,o0+((e.I U).toNat*sz+off)+m,none⟩=some u:=by
    intro j w kk hk hrd
    obtain⟨vs,hd,-⟩:=cG (P:=P) (U:=U) hk (n*sz) o0 cs hrow w hrd ⟨kk,o0,none⟩ 0 #[] (fun m=>by rw[ba];simp)
    obtain⟨e1,e2⟩:=sL hd hr.1 hr.2 i.size off ds hds
    refine⟨_,e2,by rw[aL e2,e1],fun m u hu=> ?_⟩
    rw[List.getElem?_take] at hu
    split at hu
    ·rw[List.getElem?_drop] at hu
     obtain⟨hl,hget⟩:=gB _ _ _ hrow
     have hlt:=(bR.1 hu).1
     rw[aL hd] at hlt
     obtain⟨c0,hc0⟩:∃c0,cs[(e.I U).toNat*sz+off+m]? =some c0:=⟨_,thm6 hlt⟩
     have hld:=hget _ c0 hc0
     obtain⟨k',v,hk',hv,hcell⟩:=hrd (b,o0+((e.I U).toNat*sz+off+m)) (by
      have:∀(n o p:Nat),p<n->(b,o+p)∈cP b o n:=by
       intro n
       induction n with
       | zero=>intro o p hp;omega
       | succ n ih=>
         intro o p hp
         cases p with
         | zero=>simp[cP]
         | succ p=>simp only[cP,List.mem_cons];exact .inr (by have:=ih (o+1) p (by omega);rwa [show o+(p+1)=o+1+p by omega])
      exact this _ _ _ (by omega)) c0 hld
     simp only at hk' hcell
     rw[hk] at hk';cases hk'
     obtain⟨v',hv',hd'⟩:=cq hd _ c0 hc0
     rw[hv] at hd';cases hd'
     rw[hv'] at hu;cases hu
     rw[Nat.add_assoc]
     exact hcell
    ·cases hu
   split at g1
   ·rename_i hagg
    refine⟨_,kw1,g1,q1,l1,OpOk.pure fun j a w _ hev hrd _ _=> ?_⟩
    obtain⟨kk,hk,he⟩:=an6 (hev x (by simp[hop,Op.operands]) _ hx)
    obtain⟨us,h1,h2,h3⟩:=cells hk hrd
    refine⟨.agg us.toArray,by simp[V.den,h1],?_⟩
    have hload:=ef (P:=P) (a:=⟨kk,o0+((e.I U).toNat*sz+off),none⟩) (w:=w) us 0 #[] (fun m u hu=>by rw[bn,ba];exact h3 m u hu)
    rw[h2] at hload
    simp[execOp,hop,he,Instr.loadAt,Instr.sureAddr,Sem.run_bind,loadVar,ht.agg,hagg,ht.size,loadCells,hload]
   ·rename_i hagg
    split at g1
    ·rename_i d
     refine⟨_,kw1,g1,q1,l1,OpOk.pure fun j a w _ hev hrd _ _=> ?_⟩
     obtain⟨kk,hk,he⟩:=an6 (hev x (by simp[hop,Op.operands]) _ hx)
     obtain⟨us,h1,h2,h3⟩:=cells hk hrd
     simp only[denL] at h1
     cases hdd:d.den U j with
     | none=>rw[hdd] at h1;cases h1
     | some v=>
       rw[hdd] at h1;cases h1
       have hcell:=h3 0 v rfl
       rw[Nat.add_zero] at hcell
       have hagg':i.agg=false:=by simpa using hagg
       refine⟨v,hdd,?_⟩
       simp[execOp,hop,he,Instr.loadAt,Instr.sureAddr,Sem.run_bind,loadVar,ht.agg,hagg',load,Sem.run,hcell]
    ·exact g1.elim
  ·exact g1.elim
 ·exact g1.elim
def setV:Nat->List Value->List Value->List Value
 | off+1,x::xs,us=>x::setV off xs us
 | 0,x::xs,u::us=>u::setV 0 xs us
 | _,xs,_=>xs
theorem fj:∀(off:Nat) (xs us:List Value) (p:Nat),(setV off xs us)[p]? =if off<=p/\p<off+us.length/\p<xs.length then us[p-off]? else xs[p]?
 | off+1,x::xs,us,0=>by simp[setV]
 | off+1,x::xs,us,p+1=>by
   simp only[setV,lS,fj off xs us p,List.length_cons]
   by_cases h:off<=p/\p<off+us.length/\p<xs.length
   ·rw[if_pos h,if_pos (by omega)];congr 1;omega
   ·rw[if_neg h,if_neg (by omega)]
 | 0,x::xs,u::us,0=>by simp[setV]
 | 0,x::xs,u::us,p+1=>by
   simp only[setV,lS,fj 0 xs us p,List.length_cons]
   by_cases h:0<=p/\p<0+us.length/\p<xs.length
   ·rw[if_pos h,if_pos (by omega)];simp
   ·rw[if_neg h,if_neg (by omega)]
 | 0,x::xs,[],p=>by
   rw[if_neg (by simp)]
   rfl
 | 0,[],us,p=>by cases us<;>simp[setV]
 | off+1,[],us,p=>by simp[setV]
theorem cr:∀(off:Nat) (xs us:List Value),(setV off xs us).length=xs.length
 | off+1,x::xs,us=>by simp[setV,cr off xs us]
 | 0,x::xs,u::us=>by simp[setV,cr 0 xs us]
 | 0,x::xs,[]=>rfl
 | 0,[],us=>by cases us<;>rfl
 | off+1,[],us=>rfl
theorem wA {j:J} {c:E}:∀(off:Nat) (xs vc r:List C) (vs us:List Value),setI c off xs vc=some r->denL U j xs=some vs->denL U j vc=some us->denL U j r=some (if c.B U=true then setV off vs us else vs)
 | off+1,x::xs,vc,r,vs,us,h,h1,h2=>by
   simp only[setI,thm4] at h
   obtain⟨r',h3,rfl⟩:=h
   simp only[denL] at h1
   cases hx:x.den U j with
   | none=>rw[hx] at h1;cases h1
   | some v=>
     cases hl:denL U j xs with
     | none=>rw[hx,hl] at h1;cases h1
     | some l=>
       rw[hx,hl] at h1;cases h1
       simp only[denL,hx,wA off xs vc r' l us h3 hl h2]
       split<;>simp[setV]
 | 0,xs,[],r,vs,us,h,h1,h2=>by
   cases h2
   have:r=xs:=by cases xs<;>simpa[setI] using h.symm
   subst this
   rw[h1]
   cases vs<;>simp[setV]
 | 0,x::xs,y::vc,r,vs,us,h,h1,h2=>by
   cases x<;>first | (simp only[setI] at h;cases h;done) | skip
   cases y<;>first | (simp only[setI] at h;cases h;done) | skip
   rename_i k a k' b
   simp only[setI] at h
   split at h
   ·rename_i hk
    rw[thm4] at h
    obtain⟨r',h3,rfl⟩:=h
    simp only[denL,C.den] at h1 h2
    cases hl:denL U j xs with
    | none=>rw[hl] at h1;cases h1
    | some l=>
      cases hm:denL U j vc with
      | none=>rw[hm] at h2;cases h2
      | some m=>
        rw[hl] at h1;cases h1
        rw[hm] at h2;cases h2
        simp only[denL,C.den,E.I,wA 0 xs vc r' l m h3 hl hm]
        split<;>simp[setV,az hk]
   ·cases h
 | 0,[],y::vc,r,vs,us,h,h1,h2=>by simp[setI] at h
 | off+1,[],vc,r,vs,us,h,h1,h2=>by simp[setI] at h
theorem agl {j:J} {e:E} {off sz:Nat} {vc:List C} {us:List Value} (hu:denL U j vc=some us) (hsz:off+us.length<=sz) (h0:0<=e.I U):∀(n m0:Nat) (cs ds:List C) (vs:List Value),iteR e off sz vc m0 n cs=some ds->denL U j cs=some vs->vs.length=n*sz->
  denL U j ds=some (if m0<=(e.I U).toNat/\(e.I U).toNat<m0+n then setV (((e.I U).toNat-m0)*sz+off) vs us else vs)
 | 0,m0,cs,ds,vs,h,hd,hl=>by
   cases h
   rw[if_neg (by omega),hd]
 | n+1,m0,cs,ds,vs,h,hd,hl=>by
   simp only[iteR] at h
   split at h
   ·rename_i a b h1 h2
    cases h
    have e1:=wA off _ _ _ _ _ h1 (kq hd sz) hu
    have hl2:(vs.drop sz).length=n*sz:=by rw[List.length_drop,hl,Nat.succ_mul];omega
    have e2:=agl hu hsz h0 n (m0+1) _ _ _ h2 (gK hd sz) hl2
    have hge:sz<=vs.length:=by rw[hl,Nat.succ_mul];omega
    rw[fH e1 e2]
    congr 1
    have hB:(E.eq e (.lit (m0:Int))).B U=decide ((e.I U).toNat=m0):=by
     simp only[E.B,E.I]
     rw[aM]
     simp only[dl,bl]
     omega
    rw[hB]
    generalize (e.I U).toNat=M
    apply List.ext_getElem?
    intro p
    have tl:(vs.take sz).length=sz:=by rw[List.length_take];omega
    by_cases hM:M=m0
    ·subst hM
     rw[if_pos (by simp),if_neg (by omega),if_pos (by omega),Nat.sub_self,Nat.zero_mul,bn,fj]
     by_cases hp:p<sz
     ·rw[thm8 (by rw[cr,tl];exact hp),fj,tl,List.getElem?_take,if_pos hp]
      by_cases hq:off<=p/\p<off+us.length/\p<sz
      ·rw[if_pos hq,if_pos (by omega)]
      ·rw[if_neg hq,if_neg (by omega)]
     ·rw[thm9 (by rw[cr,tl];omega),cr,tl,List.getElem?_drop,if_neg (by omega)]
      congr 1;omega
    ·rw[if_neg (by simpa using hM)]
     by_cases hr:m0+1<=M/\M<m0+1+n
     ·rw[if_pos hr,if_pos (by omega),fj]
      have hmul:(M-m0)*sz=sz+(M-(m0+1))*sz:=by
       rw[show M-m0=(M-(m0+1))+1 by omega,Nat.succ_mul];omega
      by_cases hp:p<sz
      ·rw[thm8 (by rw[tl];exact hp),List.getElem?_take,if_pos hp,if_neg (by omega)]
      ·rw[thm9 (by rw[tl];omega),tl,fj,List.getElem?_drop,hl2]
       have hps:sz+(p-sz)=p:=by omega
       rw[hps]
       have hlen:vs.length=sz+n*sz:=by rw[hl,Nat.succ_mul];omega
       by_cases hq:(M-(m0+1))*sz+off<=p-sz/\p-sz<(M-(m0+1))*sz+off+us.length/\p-sz<n*sz
       ·rw[if_pos hq,if_pos (by omega)]
        congr 1;omega
       ·rw[if_neg hq,if_neg (by omega)]
     ·rw[if_neg hr,if_neg (by omega),List.take_append_drop]
   ·cases h
def putA:Nat->List Value->Array Value->Array Value
 | _,[],c=>c
 | o,v::vs,c=>putA (o+1) vs (c.setIfInBounds o v)
theorem sf:∀(vs:List Value) (o:Nat) (c:Array Value) (i:Nat),(putA o vs c)[i]? =if o<=i/\i<o+vs.length/\i<c.size then vs[i-o]? else c[i]?
 | [],o,c,i=>by rw[if_neg (by simp only[List.length_nil];omega)];rfl
 | v::vs,o,c,i=>by
   simp only[putA,sf vs (o+1),Array.size_setIfInBounds,List.length_cons]
   rcases Nat.lt_trichotomy i o with h | h | h
   ·rw[if_neg (by omega),if_neg (by omega),Array.getElem?_setIfInBounds,if_neg (by omega)]
   ·subst h
    rw[if_neg (by omega),Array.getElem?_setIfInBounds,if_pos rfl]
    by_cases hs:i<c.size
    ·rw[if_pos hs,if_pos (by omega)];simp
    ·rw[if_neg hs,if_neg (by omega),Array.getElem?_eq_none (by omega)]
   ·by_cases hq:o+1<=i/\i<o+1+vs.length/\i<c.size
    ·rw[if_pos hq,if_pos (by omega),show i-o=(i-(o+1))+1 by omega];rfl
    ·rw[if_neg hq,if_neg (by omega),Array.getElem?_setIfInBounds,if_neg (by omega)]
theorem kB {j:J} {b kk:Nat} (hk:j.b b=some kk):∀(cs:List C) (o:Nat) (vs:List Value) (w:World),denL U j cs=some vs->qg U j (dp b o cs) w (mapBlock w kk (putA o vs))/\∀w',qg U j (dp b o cs) w w'->w'=mapBlock w kk (putA o vs)
 | [],o,vs,w,hd=>by
   cases hd
   have e:mapBlock w kk (putA o [])=w:=Go.Sort.mapBlock_id w kk _ (fun c e fr _=>rfl)
   rw[e]
   exact⟨rfl,fun w' h=>h⟩
 | c::cs,o,vs,w,hd=>by
   simp only[denL] at hd
   cases hc:c.den U j with
   | none=>rw[hc] at hd;cases hd
   | some v=>
     cases hl:denL U j cs with
     | none=>rw[hc,hl] at hd;cases hd
     | some l=>
       rw[hc,hl] at hd;cases hd
       obtain⟨i1,i2⟩:=kB hk cs (o+1) l (w.setCell ⟨kk,o,none⟩ v) hl
       have e:mapBlock (w.setCell ⟨kk,o,none⟩ v) kk (putA (o+1) l)=mapBlock w kk (putA o (v::l)):=by
        rw[setCell_eq,mapBlock_mapBlock]
        rfl
       rw[e] at i1 i2
       refine⟨⟨kk,v,hk,hc,i1⟩,?_⟩
       rintro w' ⟨k2,v2,g1,g2,g3⟩
       rw[hk] at g1;cases g1
       rw[hc] at g2;cases g2
       exact i2 w' g3
theorem vd {b:Nat}:∀(n o p:Nat),p<n->(b,o+p)∈cP b o n
 | 0,_,_,h=>absurd h (by omega)
 | n+1,o,0,_=>by simp[cP]
 | n+1,o,p+1,h=>by
   simp only[cP,List.mem_cons]
   have:=vd (b:=b) n (o+1) p (by omega)
   rw[show o+1+p=o+(p+1) by omega] at this
   exact .inr this
theorem vb {b:Nat}:∀(cs:List C) (o p:Nat) (c:C),cs[p]? =some c->(b,o+p,c)∈dp b o cs
 | [],_,_,_,h=>by simp at h
 | x::cs,o,0,c,h=>by simp at h;subst h;simp[dp]
 | x::cs,o,p+1,c,h=>by
   simp only[dp,List.mem_cons]
   have:=vb (b:=b) cs (o+1) p c (by simpa using h)
   rw[show o+1+p=o+(p+1) by omega] at this
   exact .inr this
theorem zK {b:Nat}:∀(cs:List C) (o:Nat) (q:Nat×Nat×C),q∈dp b o cs->q.1=b/\∃p,p<cs.length/\q.2.1=o+p
 | [],_,q,h=>by simp[dp] at h
 | x::cs,o,q,h=>by
   simp only[dp,List.mem_cons] at h
   rcases h with rfl | h
   ·exact⟨rfl,0,by simp,rfl⟩
   ·obtain⟨h1,p,h2,h3⟩:=zK cs (o+1) q h
    exact⟨h1,p+1,by simp;omega,by omega⟩
theorem aaX (hT:∀t i,(t,i)∈cx.ty->TIok P t i) {t:Nat} {x y:Operand} {kw:Kw} (hop:o.op=.store t x y) {b o0 n sz off:Nat} {e:E} (hx:vw.ev x=some (.one (.pe b o0 n sz e off))) {v:V} (hy:vw.ev y=some v) {i:TI} (hi:av t cx.ty=some i) {cs:List C} (hcs:vw.row b o0 (n*sz)=some cs)
  (hf:v.flat=true) (hn:v.cells.length=i.size) (hsz:off+i.size<=sz) (hcl:cs.length=n*sz)
  (h:(decK (inR e n) (fun ok kw=>if ok then
      (match iteR e off sz v.cells 0 n cs with
      | some ds=>if ds.all C.solid&&(cs.all C.solid&&v.cells.all C.solid) then k {val:=.one .undef,rd:=cP b o0 (n*sz),wr:=dp b o0 ds} kw else .stuck 165
      | none=>.stuck 166)
      else .stuck 167) kw).holds sp G U I) (hg:Good sp cx.sm U kw):Sound P sp U G I base cx vw o k kw:=by
 obtain⟨kw1,g1,q1,_,l1⟩:=aY _ _ _ h hg
 rw[agq] at g1
 split at g1
 ·rename_i hr
  rw[thm0,bl,bl] at hr
  have ht:=hT _ _ (an hi)
  have hrow:=vw.rowok _ _ _ _ hcs
  split at g1
  ·rename_i ds hds
   split at g1
   ·rename_i hsol
    simp only[thm0] at hsol
    refine⟨_,kw1,g1,q1,l1,fun j a w _ hev hrd hwr _ _ K Q hK=> ?_⟩
    obtain⟨kk,hk,he⟩:=an6 (hev x (by simp[hop,Op.operands]) _ hx)
    have hd:=V.cells_ok (hev y (by simp[hop,Op.operands]) v hy) hf
    obtain⟨vs,hvs,-⟩:=cG (P:=P) (U:=U) hk (n*sz) o0 cs hrow w hrd ⟨kk,o0,none⟩ 0 #[] (fun m=>by rw[ba];simp)
    have hul:(a.eval y).cells.toList.length=i.size:=by rw[aL hd,hn]
    have hvl:vs.length=n*sz:=by rw[aL hvs,hcl]
    have hnew:=agl hd (by rw[hul];exact hsz) hr.1 n 0 cs ds vs hds hvs hvl
    rw[if_pos (by omega),Nat.sub_zero] at hnew
    generalize hM:(e.I U).toNat=M at *
    have hMn:M<n:=by omega
    have hMs:M*sz+off+i.size<=n*sz:=by
     have:(M+1)*sz<=n*sz:=Nat.mul_le_mul_right sz hMn
     rw[Nat.succ_mul] at this
     omega
    have old:∀p,p<n*sz->w.cell? ⟨kk,o0+p,none⟩=vs[p]? :=by
     intro p hp
     obtain⟨hl,hget⟩:=gB _ _ _ hrow
     obtain⟨c0,hc0⟩:∃c0,cs[p]? =some c0:=⟨_,thm6 (by omega)⟩
     obtain⟨k',v',hk',hv',hcell⟩:=hrd (b,o0+p) (vd _ _ _ hp) c0 (hget _ c0 hc0)
     simp only at hk' hcell
     rw[hk] at hk';cases hk'
     obtain⟨v2,hv2,hd2⟩:=cq hvs p c0 hc0
     rw[hv'] at hd2;cases hd2
     rw[hcell,hv2]
    have hdl:ds.length=n*sz:=by
     have:=aL hnew
     rw[cr] at this
     omega
    have hw2:WrOk j w (dp b (o0+(M*sz+off)) v.cells):=by
     intro q hq
     obtain⟨e1,p,e2,e3⟩:=zK _ _ _ hq
     obtain⟨c1,hc1⟩:∃c1,ds[M*sz+off+p]? =some c1:=⟨_,thm6 (by omega)⟩
     obtain⟨k3,u3,f1,f2,f3⟩:=hwr _ (vb ds o0 _ c1 hc1)
     refine⟨k3,u3,by rw[e1];exact f1,?_,?_⟩
     ·rw[e3,Nat.add_assoc];exact f2
     ·rw[e3,Nat.add_assoc];exact f3
    obtain⟨w',h1,h2⟩:=cY (P:=P) hk ⟨kk,o0+(M*sz+off),none⟩ v.cells (o0+(M*sz+off)) 0 _ w (fun m=>by rw[ba];simp) hd hsol.2.2 hw2
    have e1:=(kB hk v.cells _ _ w hd).2 w' h1
    have e2:=(kB hk ds o0 _ w hnew).1
    have e3:mapBlock w kk (putA (o0+(M*sz+off)) (a.eval y).cells.toList)=mapBlock w kk (putA o0 (setV (M*sz+off) vs (a.eval y).cells.toList)):=by
     refine mapBlock_congr w kk _ _ fun c ec fr hc=> ?_
     have oldc:∀p,p<n*sz->c[o0+p]? =vs[p]? :=fun p hp=>by
      have:=old p hp
      rw[<-this]
      simp[World.cell?,hc]
     apply Array.ext_getElem?
     intro q
     rw[sf,sf,cr,hvl]
     by_cases hq:o0<=q/\q<o0+n*sz/\q<c.size
     ·rw[if_pos hq,fj]
      by_cases hq2:M*sz+off<=q-o0/\q-o0<M*sz+off+(a.eval y).cells.toList.length/\q-o0<vs.length
      ·rw[if_pos hq2,if_pos (by omega)]
       congr 1;omega
      ·rw[if_neg hq2,if_neg (by omega),<-oldc (q-o0) (by omega)]
       congr 1;omega
     ·rw[if_neg hq,if_neg (by omega)]
    rw[e3] at e1
    have hsz':(a.eval y).cells.size=i.size:=by rw[<-Array.length_toList];exact hul
    refine sT (w':=w') ?_ (hK _ j w' rfl ⟨rfl,w,Ext.refl w,by rw[e1];exact e2⟩)
    simp[execOp,hop,he,Instr.storeAt,Instr.sureAddr,Sem.run_bind,storeVar,ht.size,hsz',h2]
   ·exact g1.elim
  ·exact g1.elim
 ·exact g1.elim
end
section
variable {P:Program} {sp:Spec} {U:Env} {G:Env->E->Prop} {I:Nat->List Dt->Prop} {base:Nat} {cx:Cx} {vw:Vw} {o:Oper} {k:Eff->Kw->Tr}
theorem aop {f:E->E->E} {g:Int->Int->Int} (hf:∀a b,(f a b).I U=g (a.I U) (b.I U)) {m2:Value->Value->Sem Value} {k0:IntKind} (hm:∀x y w,(m2 (.int k0 x) (.int k0 y)).run P w=.ok (.int k0 (g x y)) w) {j:J}:
  ∀(l:List V) (e e':E) (us:List Value),mmK f k0 e l=some e'->(∀(i:Nat) x u,l[i]? =some x->us[i]? =some u->x.den U j=some u)->us.length=l.length->∀w,(us.foldlM m2 (.int k0 (e.I U))).run P w=.ok (.int k0 (e'.I U)) w
 | [],e,e',us,h,hu,hl,w=>by
   cases h
   cases us with
   | nil=>simp
   | cons _ _=>cases hl
 | v::l,e,e',us,h,hu,hl,w=>by
   cases us with
   | nil=>cases hl
   | cons u us=>
     cases v with
     | one c=>
       cases c with
       | int kd x=>
         simp only[mmK] at h
         split at h
         ·rename_i hk
          have:=az hk
          subst this
          have h1:=cu (hu 0 _ u rfl rfl)
          subst h1
          have h2:=aop hf hm l (f e x) e' us h (fun i y u hy hu'=>hu (i+1) y u (by simpa using hy) (by simpa using hu')) (by simpa using hl) w
          rw[hf] at h2
          simp only[List.foldlM_cons,Sem.run_bind,hm,Result.andThen_ok,h2]
         ·cases h
       | _=>simp[mmK] at h
     | _=>simp[mmK] at h
theorem dA {c:Call} {a:Act}:(c.args.map a.eval).toList=c.args.toList.map a.eval:=Array.toList_map ..
theorem aj9 (mx:Bool) {c:Call} {kw:Kw} (hop:o.op=.call c) (hc:c.callee=.builtin (if mx then .max else .min)) {k0:IntKind} {e e':E} {l:List V} (hl:evL vw.ev c.args.toList=some (.one (.int k0 e)::l)) (he:mmK (if mx then af6 else af5) k0 e l=some e')
  (h:(k {val:=.one (.int k0 e')} kw).holds sp G U I) (hg:Good sp cx.sm U kw):Sound P sp U G I base cx vw o k kw:=by
 refine⟨_,kw,h,hg,.refl _,OpOk.pure fun j a w _ hev _ _ _=>⟨.int k0 (e'.I U),rfl,?_⟩⟩
 obtain⟨h1,h2⟩:=gJ (j:=j) (a:=a) hl (fun x hx=>hev x (by simp[hop,Op.operands,Call.operands];exact .inr (by simpa using hx)))
 obtain⟨u,us,hus⟩:∃u us,c.args.toList.map a.eval=u::us:=by
  cases hm:c.args.toList.map a.eval with
  | nil=>rw[hm] at h2;cases h2
  | cons u us=>exact⟨u,us,rfl⟩
 rw[hus] at h1 h2
 have hu:=cu (h1 0 _ u rfl rfl)
 subst hu
 have hlist:(c.args.map a.eval).toList=.int k0 (e.I U)::us:=by rw[dA,hus]
 cases mx with
 | true=>
   have h3:=aop (P:=P) (U:=U) (f:=af6) (g:=max) (aor U) (m2:=Builtin.max2) (k0:=k0) (fun x y w=>by simp[Builtin.max2,oC.2]) l e e' us (by simpa using he) (fun i x u hx hu=>h1 (i+1) x u (by simpa using hx) (by simpa using hu)) (by simpa using h2) w
   simp only[execOp,hop,resolve,hc,if_true,Sem.run_bind,Sem.run_pure,Result.andThen_ok,invoke,builtin,Builtin.max_,hlist,h3]
 | false=>
   have h3:=aop (P:=P) (U:=U) (f:=af5) (g:=min) (aoq U) (m2:=Builtin.min2) (k0:=k0) (fun x y w=>by simp[Builtin.min2,oC.1]) l e e' us (by simpa using he) (fun i x u hx hu=>h1 (i+1) x u (by simpa using hx) (by simpa using hu)) (by simpa using h2) w
   simp only[execOp,hop,resolve,hc,Bool.false_eq_true,if_false,Sem.run_bind,Sem.run_pure,Result.andThen_ok,invoke,builtin,Builtin.min_,hlist,h3]
theorem arj {vk:List VK} {ks:List CK} (hv:Vk U vk) (hr:(∀(n:Nat) k,ks[n]? =some (.int k)->inK k (U.i (vk.length+n))=true)/\∀(n:Nat) k ty,ks[n]? =some (.sl k ty)->RowsIn k (U.l (vk.length+n))):Vk U (vk++ks.map vU):=by
 constructor
 ·intro n kd h
  rcases aV n vk.length with hlt | hge
  ·rw[thm8 hlt] at h
   exact hv.i n kd h
  ·rw[thm9 hge,jq,thm4] at h
   obtain⟨c,hc,hk⟩:=h
   cases c<;>simp only[vU] at hk<;>first | cases hk | skip
   have:=hr.1 _ _ hc
   rwa [show vk.length+(n-vk.length)=n by omega] at this
 ·intro n kd h
  rcases aV n vk.length with hlt | hge
  ·rw[thm8 hlt] at h
   exact hv.l n kd h
  ·rw[thm9 hge,jq,thm4] at h
   obtain⟨c,hc,hk⟩:=h
   cases c<;>simp only[vU] at hk<;>first | cases hk | skip
   have:=hr.2 _ _ _ hc
   rwa [show vk.length+(n-vk.length)=n by omega] at this
theorem agG {vk:List VK} (hv:Vk U vk) {rw:Nat->Option RowOb} {k:CK} {c:C} {t e:E} (h:encC vk rw k c t=some e):ckIn k (e.D U) (t.D U):=by
 unfold encC at h
 split at h
 ·split at h
  ·rename_i hk
   cases h
   simp only[thm0] at hk
   exact⟨_,rfl,E.rng_ok hv _ hk.2⟩
  ·cases h
 ·cases h;exact⟨_,rfl⟩
 ·split at h
  ·cases h;exact rfl
  ·cases h
 ·split at h
  ·cases h;exact rfl
  ·cases h
 ·rw[thm4] at h
  obtain⟨l,hl,rfl⟩:=h
  refine⟨_,rfl,?_⟩
  unfold fR at hl
  split at hl
  ·split at hl
   ·split at hl
    ·rename_i hq
     simp only[thm0] at hq
     cases hl
     exact E.lok_ok hv _ hq.2.2
    ·cases hl
   ·cases hl
  ·cases hl;intro r hr;cases hr
  ·cases hl
 ·cases h;exact rfl
 ·cases h;exact rfl
 ·split at h
  ·split at h
   ·rename_i hq
    simp only[thm0] at hq
    cases h
    exact⟨rfl,hq.2.2⟩
   ·cases h
  ·cases h
 ·cases h
theorem aaE {vk:List VK} (hv:Vk U vk) {rw:Nat->Option RowOb}:∀{ks:List CK} {cs:List C} {t e:E},vP vk rw ks cs t=some e->abD ks (e.D U) (t.D U)
 | [],[],t,e,h=>by cases h;exact rfl
 | k::ks,c::cs,t,e,h=>by
   simp only[vP,bJ] at h
   obtain⟨e',h1,h2⟩:=h
   exact⟨_,agG hv h2,aaE hv h1⟩
theorem ye {vk:List VK} (hv:Vk U vk) {rw:Nat->Option RowOb} {ks:List CK} {cs:List C} {t e:E} (h:encL vk rw ks cs t=some e):abD ks (e.D U) (t.D U):=aaE hv (vO h)
theorem kU {j:J} {l e:E}:∀(ks:List CE) (c0:Nat),∃vs,denL U j (im l e c0 ks)=some vs/\vs.length=ks.length/\∀(m:Nat) ck,ks[m]? =some ck->vs[m]? =some (gM ck (gt (l.R U) (e.I U) (c0+m)))
 | [],c0=>⟨[],rfl,rfl,fun m ck h=>by simp at h⟩
 | k::ks,c0=>by
   obtain⟨vs,h1,h2,h3⟩:=kU (j:=j) (l:=l) (e:=e) ks (c0+1)
   refine⟨gM k (gt (l.R U) (e.I U) c0)::vs,by simp only[im,denL,sd,h1],by simp[h2],fun m ck h=> ?_⟩
   cases m with
   | zero=>simp at h;subst h;simp
   | succ m=>
     have:=h3 m ck (by simpa using h)
     simpa[Nat.add_assoc,Nat.add_comm 1 m] using this
theorem aq4 {vk:List VK} (hv:Vk U vk) {ks:List CE} {ty id z:Nat} {e t x:E} (h:elE vk vw ks id z e t=some x):ckIn (.el ks ty) (x.D U) (t.D U):=by
 unfold elE at h
 split at h
 ·rename_i r hr
  split at h
  ·rw[thm4] at h
   obtain⟨q,hq,rfl⟩:=h
   obtain⟨vs,h1,_⟩:=kU (U:=U) (j:=⟨fun _=>none,fun _=>none,fun _=>none,Gh.zero⟩) (l:=r.l) (e:=e) ks 0
   exact⟨q.L U,rfl,(oh hv hq h1).2⟩
  ·cases h
 ·cases h
theorem aq3 {vk:List VK} (hv:Vk U vk) {j:J} {w:World} {ks:List CE} {ty id z:Nat} {e t x:E} (hrr:RrOk U base j w vw.rw [id]) (hin:∀r,vw.sw id=some r->(inB e r.l).B U=true) (h:elE vk vw ks id z e t=some x) {u:Value} (hu:(V.one (.ep id z e 0)).den U j=some u):vT w (.el ks ty) (x.D U) u (t.D U):=by
 unfold elE at h
 split at h
 ·rename_i r hr
  split at h
  ·rename_i hq
   rw[thm4] at h
   obtain⟨q,hx,rfl⟩:=h
   simp only[thm0] at hq
   have hks:=bM hq.1
   have hz:=thm1 hq.2
   subst hks hz
   obtain⟨s,hs,hok⟩:=hrr.sl id (by simp) r hr
   obtain⟨a,ha,rfl⟩:=vL hs hu
   obtain⟨vs,h1,h2,h3⟩:=kU (U:=U) (j:=j) (l:=r.l) (e:=e) r.ks 0
   obtain⟨h4,h5⟩:=oh hv hx h1
   have hb:=hin r hr
   rw[xW] at hb
   simp only[thm0,bl] at hb
   have hpos:0<s.n:=by have:=hok.n;omega
   have hc:s.c≠0:=by have:=hok.rd.2.1;omega
   refine⟨q.L U,_,rfl,rfl,h5,hok.lt _ (bo (vX hc ?_)),fun c u hcu=> ?_⟩
   ·simp only[SV.v,Value.ownBlock,ha]
    unfold Addr.add
    split<;>rfl
   ·have hfl:flat r.ks [q.L U]=vs:=by rw[h4];simp[flat]
    rw[hfl] at hcu
    have hlt:c<r.ks.length:=by rw[<-h2];exact(bR.1 hcu).1
    have hck:=thm6 hlt
    have h6:=h3 c _ hck
    rw[hcu] at h6
    cases h6
    rw[bn,bX,Nat.add_zero]
    exact hok.rd.2.2.2.2 a ha _ _ (mr hck hok.rows.row (by omega))
  ·cases h
 ·cases h
theorem ajC {x:V} {xs:List V} (h:(inA vw (x::xs)).B U=true):(inA vw xs).B U=true/\∀id z e,x=.one (.ep id z e 0)->∀r,vw.sw id=some r->(inB e r.l).B U=true:=by
 by_cases hx:∃id z e,x=.one (.ep id z e 0)
 ·obtain⟨id,z,e,rfl⟩:=hx
  simp only[inA] at h
  split at h
  ·rename_i r hr
   rw[eG,thm0] at h
   refine⟨h.2,fun id' z' e' he r' hr'=> ?_⟩
   cases he
   rw[hr] at hr'
   cases hr'
   exact h.1
  ·rename_i hr
   refine⟨h,fun id' z' e' he r' hr'=> ?_⟩
   cases he
   rw[hr] at hr'
   cases hr'
 ·have e:inA vw (x::xs)=inA vw xs:=by
   cases x with
   | one c=>cases c with
     | ep id z e o=>cases o with
       | zero=>exact(hx ⟨_,_,_,rfl⟩).elim
       | succ o=>rfl
     | _=>rfl
   | _=>rfl
  rw[e] at h
  exact⟨h,fun id z e he=>(hx ⟨_,_,_,he⟩).elim⟩
theorem agI {vk:List VK} (hv:Vk U vk):∀{ss:List Sh} {xs:List V} {e:E},encA vk vw ss xs=some e->ag7 ss (e.D U)
 | [],[],e,h=>by cases h;exact rfl
 | s::ss,x::xs,e,h=>by
   simp only[encA,bJ] at h
   obtain⟨e',h1,h2⟩:=h
   refine⟨e'.D U,?_,agI hv h1⟩
   unfold encV at h2
   split at h2
   ·exact ye hv h2
   ·exact⟨_,aq4 hv h2,rfl⟩
   ·exact⟨_,agG hv h2,rfl⟩
   ·split at h2
    ·rw[bJ] at h2
     obtain⟨cs,_,h2⟩:=h2
     exact ye hv h2
    ·cases h2
   ·rw[bJ] at h2
    obtain⟨cs,_,h2⟩:=h2
    split at h2
    ·exact ye hv h2
    ·cases h2
   ·cases h2
theorem agF {vk:List VK} (hv:Vk U vk) {j:J} {w:World} {k:CK} {c:C} {t e:E} (hrr:RrOk U base j w vw.rw (dG [c])) (hd:k=.any->∃v,c.den U j=some v) (h:encC vk vw.tw k c t=some e):∃v,c.den U j=some v/\vT w k (e.D U) v (t.D U):=by
 unfold encC at h
 split at h
 ·split at h
  ·rename_i hk
   cases h
   simp only[thm0] at hk
   refine⟨_,rfl,_,rfl,?_,E.rng_ok hv _ hk.2⟩
   rw[az hk.1]
  ·cases h
 ·cases h;exact⟨_,rfl,_,rfl,rfl⟩
 ·split at h
  ·rename_i hg
   cases h
   refine⟨_,rfl,rfl,?_⟩
   rw[thm1 hg]
  ·cases h
 ·split at h
  ·rename_i hg
   cases h
   simp only[thm0] at hg
   refine⟨_,rfl,rfl,?_⟩
   rw[az hg.1,du hg.2]
   rfl
  ·cases h
 ·rw[thm4] at h
  obtain⟨l,hl,rfl⟩:=h
  unfold fR at hl
  split at hl
  ·rename_i id
   split at hl
   ·rename_i r hr
    split at hl
    ·rename_i hq
     simp only[thm0] at hq
     cases hl
     obtain⟨hrw,hkd⟩:=Vw.tw_some hr
     obtain⟨s,hs,hok,hz⟩:=hrr id (by simp[dG]) r hrw
     have hks:=bM hq.1
     subst hks
     refine⟨s.v,by simp[C.den,hs],_,s,rfl,rfl,?_,?_,hok.rows,fun k hk=>hok.lt k (bo hk)⟩
     ·rcases bC r.ks with⟨_,h1⟩ | ⟨_,h1⟩
      ·exact(hok.2.2 (hkd.trans h1)).n
      ·exact(hok.1 (hkd.trans h1)).n
     ·unfold TRow
      rcases bC r.ks with⟨_,h1⟩ | ⟨_,h1⟩
      ·rw[h1]
       exact(hok.2.2 (hkd.trans h1)).told ⟨hz.1,hz.2.1⟩
      ·rw[h1]
       exact(hok.1 (hkd.trans h1)).rd
    ·cases hl
   ·cases hl
  ·cases hl
   refine⟨_,rfl,[],⟨none,0,0,[]⟩,rfl,rfl,rfl,TRow.nil,⟨fun r hr=>(by cases hr),by simp⟩,fun k hk=>(by cases hk)⟩
  ·cases hl
 ·cases h;exact⟨_,rfl,rfl,rfl⟩
 ·cases h
  obtain⟨v,hv⟩:=hd rfl
  exact⟨v,hv,rfl⟩
 ·rename_i L id
  split at h
  ·rename_i r hr
   split at h
   ·rename_i hq
    simp only[thm0] at hq
    cases h
    obtain⟨hrw,hkd⟩:=Vw.tw_some hr
    obtain⟨s,hs,hok,hz⟩:=hrr id (by simp[dG]) r hrw
    have hks:=bM hq.1.1
    subst hks
    obtain⟨hR,hrows,hp,hk2⟩:=xG (U:=U) hq.2.2
    have hl:r.l.R U=L:=by
     rcases(bG _ _).mp hq.2.1 with h1 | h1
     ·exact(congrArg (E.R U) (E.same_eq h1)).trans hR
     ·rw[E.same_eq h1]
      exact aql (by have:=hq.2.2;simp only[rlOk,thm0] at this;exact this.1)
    have hso:=hok.1 (hkd.trans hk2)
    refine⟨s.v,by simp[C.den,hs],rfl,hq.2.2,s,rfl,?_,?_,fun k hk=>hok.lt k (bo hk)⟩
    ·rw[<-hl];exact hso.n
    ·unfold TRow
     rw[hk2,<-hl]
     exact hso.rd
   ·cases h
  ·cases h
 ·cases h
theorem RrOk.mono {j:J} {w:World} {rw:Nat->Option RowOb} {l l':List Nat} (h:RrOk U base j w rw l) (hs:∀x∈l',x∈l):RrOk U base j w rw l':=fun id hid r hr=>h id (hs id hid) r hr
theorem pm {c:C} {cs:List C}:(∀x∈dG [c],x∈dG (c::cs))/\∀x∈dG cs,x∈dG (c::cs):=by
 cases c<;>simp[dG]<;>intro x hx<;>exact .inr hx
theorem aaD {vk:List VK} (hv:Vk U vk) {j:J} {w:World}:∀{ks:List CK} {cs:List C} {t e:E},RrOk U base j w vw.rw (dG cs)->(∀c∈cs,CK.any∈ks->∃v,c.den U j=some v)->vP vk vw.tw ks cs t=some e->∃vs,denL U j cs=some vs/\iB w ks (e.D U) vs (t.D U)
 | [],[],t,e,_,_,h=>by cases h;exact⟨[],rfl,rfl,rfl⟩
 | k::ks,c::cs,t,e,hrr,hd,h=>by
   simp only[vP,bJ] at h
   obtain⟨e',h1,h2⟩:=h
   obtain⟨vs,h3,h4⟩:=aaD hv (hrr.mono pm.2) (fun c hc ha=>hd c (bZ _ hc) (bZ _ ha)) h1
   obtain⟨v,h5,h6⟩:=agF hv (hrr.mono pm.1) (fun e=>hd c bA (by rw[e];exact bA)) h2
   exact⟨v::vs,by simp[denL,h3,h5],v,vs,_,rfl,h6,h4⟩
theorem yd {vk:List VK} (hv:Vk U vk) {j:J} {w:World} {ks:List CK} {cs:List C} {t e:E} (hrr:RrOk U base j w vw.rw (dG cs)) (hd:∀c∈cs,CK.any∈ks->∃v,c.den U j=some v) (h:encL vk vw.tw ks cs t=some e):∃vs,denL U j cs=some vs/\iB w ks (e.D U) vs (t.D U):=aaD hv hrr hd (vO h)
theorem py {j:J} {w:World} {b kk:Nat} (hj:j.b b=some kk):∀{n off:Nat} {cs:List C},gC vw.ld b off n=some cs->RdOk U j w vw.ld (cP b off n)->cs.length=n/\∃vs,denL U j cs=some vs/\∀(m:Nat) u,vs[m]? =some u->w.cell? ⟨kk,off+m,none⟩=some u
 | 0,off,cs,h,_=>by cases h;exact⟨rfl,[],rfl,fun m u hu=>by simp at hu⟩
 | n+1,off,cs,h,hrd=>by
   simp only[gC] at h
   cases hc:vw.ld b off with
   | none=>rw[hc] at h;cases h
   | some c=>
     cases hl:gC vw.ld b (off+1) n with
     | none=>rw[hc,hl] at h;cases h
     | some l=>
       rw[hc,hl] at h;cases h
       obtain⟨k',v,h1,h2,h3⟩:=hrd (b,off) (by simp[cP]) c hc
       simp only at h1 h3
       rw[hj] at h1;cases h1
       obtain⟨e0,vs,e1,e2⟩:=py hj hl (fun p hp=>hrd p (by simp[cP];exact .inr hp))
       refine⟨by simp[e0],v::vs,by simp[denL,h2,e1],fun m u hu=> ?_⟩
       cases m with
       | zero=>simp at hu;subst hu;exact h3
       | succ m=>
         have:=e2 m u (by simpa using hu)
         rwa [show off+(m+1)=off+1+m by omega]
theorem agH {vk:List VK} (hv:Vk U vk) {j:J} {w:World}:∀{ss:List Sh} {xs:List V} {e:E},RrOk U base j w vw.rw (fg vw ss xs)->RdOk U j w vw.ld (sP ss xs)->FbOk sp.hw U j w vw.fb->encA vk vw ss xs=some e->(inA vw xs).B U=true->∀us:List Value,(∀(i:Nat) x u,xs[i]? =some x->us[i]? =some u->x.den U j=some u)->us.length=xs.length->kH w ss (e.D U) us
 | [],[],e,_,_,_,h,_,us,hu,hl=>by
   cases h
   cases us with
   | nil=>exact⟨rfl,rfl⟩
   | cons _ _=>cases hl
 | s::ss,x::xs,e,hrr,hrd,hfb,h,hin,us,hu,hl=>by
   obtain⟨hin1,hin2⟩:=ajC hin
   simp only[encA,bJ] at h
   obtain⟨e',h1,h2⟩:=h
   cases us with
   | nil=>cases hl
   | cons u us=>
     have h7:=hu 0 x u rfl rfl
     have tail:RrOk U base j w vw.rw (fg vw ss xs)->RdOk U j w vw.ld (sP ss xs)->kH w ss (e'.D U) us:=fun a b=>
      agH hv a b hfb h1 hin1 us (fun i x u hx hu'=>hu (i+1) x u (by simpa using hx) (by simpa using hu')) (by simpa using hl)
     unfold encV at h2
     split at h2
     ·rename_i ks cs
      have hrr':RrOk U base j w vw.rw (dG cs++fg vw ss xs):=hrr
      have hcd:∀c∈cs,CK.any∈ks->∃v,c.den U j=some v:=fun c hc _=>by
       simp only[V.den,thm4] at h7
       obtain⟨vs,h8,_⟩:=h7
       obtain⟨i,hi⟩:=List.getElem?_of_mem hc
       obtain⟨v,_,hv⟩:=cq h8 i c hi
       exact⟨v,hv⟩
      obtain⟨vs,h3,h4⟩:=yd hv (hrr'.mono (fun x hx=>List.mem_append_left _ hx)) hcd h2
      simp only[V.den,h3,Option.map_some,bh] at h7
      exact⟨vs,us,_,by rw[h7],h4,tail (hrr'.mono (fun x hx=>List.mem_append_right _ hx)) hrd⟩
     ·rename_i ks ty id z e0
      have hrr':RrOk U base j w vw.rw (dG [.ep id z e0 0]++fg vw ss xs):=hrr
      exact⟨_,us,_,rfl,aq3 hv (hrr'.mono (fun x hx=>List.mem_append_left _ hx)) (hin2 id z e0 rfl) h2 h7,tail (hrr'.mono (fun x hx=>List.mem_append_right _ hx)) hrd⟩
     ·rename_i kc c _
      have hsl:∀x∈dG [c]++fg vw ss xs,x∈fg vw (.one kc::ss) (.one c::xs):=by
       intro x hx
       cases c<;>exact hx
      have hrr':=hrr.mono hsl
      obtain⟨v,h3,h4⟩:=agF hv (hrr'.mono (fun x hx=>List.mem_append_left _ hx)) (fun _=>⟨u,h7⟩) h2
      have h7':c.den U j=some u:=h7
      rw[h3] at h7'
      cases h7'
      have hrd':RdOk U j w vw.ld (sP ss xs):=by
       intro p hp
       refine hrd p ?_
       cases c<;>exact hp
      exact⟨_,us,_,rfl,h4,tail (hrr'.mono (fun x hx=>List.mem_append_right _ hx)) hrd'⟩
     ·rename_i ks b
      split at h2
      ·rename_i hpos
       rw[bJ] at h2
       obtain⟨cs,hcs,h2⟩:=h2
       have hrr':RrOk U base j w vw.rw (dG cs++fg vw ss xs):=by
        have:fg vw (.ptr ks::ss) (.one (.ptr b 0)::xs)=dG cs++fg vw ss xs:=by simp only[fg,hcs]
        rw[<-this];exact hrr
       have hrd1:RdOk U j w vw.ld (cP b 0 ks.length):=fun p hp=>hrd p (List.mem_append_left _ hp)
       have hrd2:RdOk U j w vw.ld (sP ss xs):=fun p hp=>hrd p (List.mem_append_right _ hp)
       obtain⟨kk,hk,rfl⟩:=ke h7
       have hcd:∀c∈cs,CK.any∈ks->∃v,c.den U j=some v:=fun c hc _=>by
        obtain⟨_,vs,h8,_⟩:=py (U:=U) (w:=w) hk (vw.rowok _ _ _ _ hcs) hrd1
        obtain⟨i,hi⟩:=List.getElem?_of_mem hc
        obtain⟨v,_,hv⟩:=cq h8 i c hi
        exact⟨v,hv⟩
       obtain⟨vs,h3,h4⟩:=yd hv (hrr'.mono (fun x hx=>List.mem_append_left _ hx)) hcd h2
       obtain⟨hlen,hget⟩:=gB _ _ _ (vw.rowok _ _ _ _ hcs)
       have mem:∀(n o m:Nat),m<n->(b,o+m)∈cP b o n:=by
        intro n
        induction n with
        | zero=>intro o m hm;omega
        | succ n ih=>
          intro o m hm
          cases m with
          | zero=>simp[cP]
          | succ m=>simp only[cP,List.mem_cons];right;rw[show o+(m+1)=o+1+m by omega];exact ih (o+1) m (by omega)
       have cell:∀o u,vs[o]? =some u->w.cell? ⟨kk,o,none⟩=some u:=by
        intro o u hou
        have hlt:o<cs.length:=by rw[<-aL h3];exact(bR.1 hou).1
        have hc:=thm6 hlt
        have hld:=hget o _ hc
        obtain⟨k',v,g1,g2,g3⟩:=hrd1 (b,0+o) (mem _ 0 o (by omega)) _ hld
        simp only at g1 g3
        rw[hk] at g1;cases g1
        obtain⟨u',hu',hd'⟩:=cq h3 o _ hc
        rw[hou] at hu';cases hu'
        rw[g2] at hd';cases hd'
        rw[bn] at g3
        exact g3
       have hlt:kk<w.heap.size:=by
        have h0:0<vs.length:=by rw[aL h3];omega
        exact World.block_lt_of_cell? w ⟨kk,0,none⟩ (cell 0 vs[0] (thm6 h0))
       exact⟨kk,vs,us,_,rfl,h4,hlt,cell,tail (hrr'.mono (fun x hx=>List.mem_append_right _ hx)) hrd2⟩
      ·cases h2
     ·rename_i ks b
      rw[bJ] at h2
      obtain⟨cs,hcs,h2⟩:=h2
      have hrr':RrOk U base j w vw.rw (dG cs++fg vw ss xs):=by
       have:fg vw (.ptr ks::ss) (.one (.fp b 0)::xs)=dG cs++fg vw ss xs:=by simp only[fg,hcs]
       rw[<-this];exact hrr
      split at h2
      rotate_left
      ·cases h2
      rename_i hsol
      obtain⟨kk,hk,rfl⟩:=agw h7
      obtain⟨k',vs',g1,g2,g3,g4⟩:=hfb.2 b cs hcs
      have hcd:∀c∈cs,CK.any∈ks->∃v,c.den U j=some v:=fun c hc _=>by
       obtain⟨i,hi⟩:=List.getElem?_of_mem hc
       obtain⟨v,_,hv⟩:=cq g3 i c hi
       exact⟨v,hv⟩
      obtain⟨vs,h3,h4⟩:=yd hv (hrr'.mono (fun x hx=>List.mem_append_left _ hx)) hcd h2
      rw[hk] at g1;cases g1
      rw[h3] at g3;cases g3
      exact⟨kk,_,us,_,rfl,h4,g2,fun o u hu=>g4 o u hu (by
       have hlt:o<cs.length:=by rw[<-aL h3];exact(bR.1 hu).1
       unfold fW
       rw[cN,thm6 hlt]
       exact thm7.1 hsol _ (List.getElem_mem _)),tail (hrr'.mono (fun x hx=>List.mem_append_right _ hx)) hrd⟩
     ·cases h2
theorem ix (v0:Nat):∀(ks:List CK) (n:Nat),(aS v0 n ks).length=(ks.filter CK.isSl).length
 | [],_=>rfl
 | k::ks,n=>by
   have ih:=ix v0 ks (n+1)
   cases k<;>simp[aS,CK.isSl,List.filter_cons,ih]
theorem iY (v0:Nat):∀(ks:List CK) (n i:Nat) (r:RowOb),(aS v0 n ks)[i]? =some r->r.own=true
 | [],_,i,r,h=>by simp[aS] at h
 | k::ks,n,i,r,h=>by
   cases k with
   | sl a b=>
     cases i with
     | zero=>simp[aS] at h;rw[<-h]
     | succ i=>exact iY v0 ks (n+1) i r (by simpa[aS] using h)
   | _=>exact iY v0 ks (n+1) i r h
theorem kV (v0:Nat):∀(ks:List CK) (n i:Nat) (r:RowOb),(aS v0 n ks)[i]? =some r->r.kd=kdOf r.ks
 | [],_,i,r,h=>by simp[aS] at h
 | k::ks,n,i,r,h=>by
   cases k with
   | sl a b=>
     cases i with
     | zero=>simp[aS] at h;rw[<-h]
     | succ i=>exact kV v0 ks (n+1) i r (by simpa[aS] using h)
   | _=>exact kV v0 ks (n+1) i r h
theorem ads (hS:∀s∈cx.sm,SmOk P sp s) (hkeys:∀s∈cx.sm,∀s'∈cx.sm,s.key=s'.key->s=s') {c:Call} {kw:Kw} (hop:o.op=.call c) {f:Operand} (hc:c.callee=.value f) {g:Nat} (hf:vw.ev f=some (.one (.fn g))) {args:List V} (hl:evL vw.ev c.args.toList=some args)
  (hinA:(inA vw args).B U=true) (h:(agV cx vw g args kw k).holds sp G U I) (hg:Good sp cx.sm U kw):Sound P sp U G I base cx vw o k kw:=by
 unfold agV at h
 split at h
 ·exact h.elim
 ·rename_i s e hfind
  obtain⟨hs,hsf,henc⟩:=oJ hfind
  have ok:=hS s hs
  split at h
  ·rename_i ks ty hin
   split at h
   ·rename_i _ id
    split at h
    ·rename_i r hsw
     split at h
     ·rename_i hck
      simp only[thm0] at hck
      obtain⟨hown,hks,hty⟩:=hck
      replace hks:=bM hks
      replace hty:=thm1 hty
      obtain⟨hpre,heq,h⟩:=h
      obtain⟨L',hF,hrows,hrun⟩:=ok.inpl ks ty hin (r.l.R U) hpre
      have heq':U.l kw.vk.length=L':=by
       have:eqs U (sp.F s.key [.l (r.l.R U)]) kw.vk.length 0 [.sl ks ty]:=heq
       rw[hF] at this
       exact this.1
      refine⟨_,_,h,⟨hg.pc,?_,hg.log⟩,⟨rfl,by simp⟩,fun j a w hb hev hrd hwr hrr hfb K Q hK=> ?_⟩
      ·refine⟨fun n k hn=> ?_,fun n k hn=> ?_⟩
       ·rcases aV n kw.vk.length with h1 | h1
        ·rw[thm8 h1] at hn;exact hg.vk.i n k hn
        ·rw[thm9 h1] at hn
         cases hd:n-kw.vk.length with
         | zero=>rw[hd] at hn;simp at hn
         | succ m=>rw[hd] at hn;simp at hn
       ·rcases aV n kw.vk.length with h1 | h1
        ·rw[thm8 h1] at hn;exact hg.vk.l n k hn
        ·rw[thm9 h1] at hn
         cases hd:n-kw.vk.length with
         | zero=>
           rw[hd] at hn
           simp only[bK,bh,VK.list.injEq] at hn
           obtain rfl:n=kw.vk.length:=by omega
           rw[heq',<-hn];exact hrows
         | succ m=>rw[hd] at hn;simp at hn
      ·obtain⟨hrw,hkd⟩:=Vw.sw_some hsw
       obtain⟨sv,hsv,hrow⟩:=hrr id bA r hrw
       have hso:SlOk U base w sv r:=by
        rcases hrow.1.cases with⟨_,h1⟩ | ⟨h1,_⟩ | ⟨h1,_⟩
        ·exact h1
        ·rw[hkd] at h1;cases h1
        ·rw[hkd] at h1;cases h1
       have hor:OwnRow w base ty ks sv (r.l.R U):=by
        rw[<-hks,<-hty]
        exact⟨hso.n,hso.own hown,hso.rows,hso.pos⟩
       obtain⟨hent,hcalls⟩:=hrun base sv w hor
       obtain⟨h1,h2⟩:=gJ (j:=j) (a:=a) hl (fun x hx=>hev x (by simp[hop,Op.operands,Call.operands];exact .inr (by simpa using hx)))
       have h4:=hev f (by simp[hop,Op.operands,Call.operands,hc]) _ hf
       have h5:a.eval f=.func (.func g) #[] #[]:=(Option.some.inj h4).symm
       have h7:c.args.map a.eval = #[sv.v]:=by
        have e2:c.args.toList.map a.eval=[sv.v]:=by
         match hm:c.args.toList.map a.eval,h2 with
         | [y],_=>
           have hd':(j.s id).map SV.v=some y:=h1 0 _ y rfl (by rw[hm];rfl)
           rw[hsv] at hd'
           rw[Option.some.inj hd'.symm]
        have e3:c.args.map a.eval=(c.args.toList.map a.eval).toArray:=by rw[<-dA]
        rw[e3,e2]
       have h6:(execOp a.eval o).run P w=(callFunc s.f #[sv.v]).run P w:=by
        rw[hsf]
        simp only[execOp,hop,resolve,hc,h5,h7,Deferred.ofValue,Sem.run_bind,Sem.run_pure,Result.andThen_ok,invoke,Array.empty_append,Array.append_empty]
       unfold Oper.wp
       rw[h6,hent]
       show Calls P s.f _ w _
       refine hcalls.mono ?_
       rintro e' w' ⟨rfl,ho,hgr⟩
       refine hK (.tuple #[]) j w' rfl ⟨rfl,sv,hsv,hgr,RowOk.mk_own (r:={r with l:=.lw kw.vk.length}) hkd ?_ ?_ ?_ ?_,fun e=>by rw[show r.kd=.sl from hkd] at e;cases e⟩
       ·show sv.n=(U.l kw.vk.length).length
        rw[heq'];exact ho.n
       ·show RowsIn r.ks (U.l kw.vk.length)
        rw[heq',hks];exact ho.rows
       ·exact hso.pos
       ·show w'.ownsRow base r.ty r.ks.length sv.v sv.n (flat r.ks (U.l kw.vk.length))
        rw[heq',hks,hty];exact ho.own
     ·exact h.elim
    ·exact h.elim
   ·exact h.elim
  rename_i hin
  have main:∀v0 kw',KwGe kw' kw->sp.pre s.key (e.D U)->eqs U (sp.F s.key (e.D U)) v0 0 s.ks->(k {val:=resV s v0 vw.nid,rd:=sP s.args args,rr:=fg vw s.args args,re:=.mk (aS v0 0 s.ks)} kw').holds sp G U I->Good sp cx.sm U kw'->Sound P sp U G I base cx vw o k kw:=by
   intro v0 kw' hlv hpre heq hh hg'
   refine⟨_,kw',hh,hg',hlv,fun j a w hb hev hrd hwr hrr hfb K Q hK=> ?_⟩
   obtain⟨h1,h2⟩:=gJ (j:=j) (a:=a) hl (fun x hx=>hev x (by simp[hop,Op.operands,Call.operands];exact .inr (by simpa using hx)))
   have h3:=agH hg.vk hrr hrd hfb henc hinA _ h1 h2
   have h4:=hev f (by simp[hop,Op.operands,Call.operands,hc]) _ hf
   have h5:a.eval f=.func (.func g) #[] #[]:=(Option.some.inj h4).symm
   have h7:c.args.map a.eval=(c.args.toList.map a.eval).toArray:=by rw[<-dA]
   have h6:(execOp a.eval o).run P w=(callFunc s.f (c.args.toList.map a.eval).toArray).run P w:=by
    rw[hsf,<-h7]
    simp only[execOp,hop,resolve,hc,h5,Deferred.ofValue,Sem.run_bind,Sem.run_pure,Result.andThen_ok,invoke,Array.empty_append,Array.append_empty]
   have fin:∀v w',RetOk s.res s.tup w w' (sp.F s.key (e.D U)) v->K (a.put o.dst v) w':=by
    intro v w' hkk
    obtain⟨hx,_,svs,hsl,hden,hrows,hdis,hzz⟩:=hkk
    refine hK v ((j.putL vw.nid svs).addzs (svs.flatMap (·.z))) w' (hden U v0 vw.nid _ heq (fun i u hu=> ?_)) ⟨hx,svs,by rw[hsl,ix];rfl,fun i u r hu hr=> ?_,hdis,hzz,rfl⟩
    ·rw[aoW];simp[J.putL,hu]
    ·exact⟨hrows U v0 heq i u r hu hr,iY v0 _ _ _ _ hr,fun h=>absurd ((kV v0 _ _ _ _ hr).symm.trans h) xS⟩
   rcases ok.calls hin _ _ w h3 hpre hfb.1 with⟨v,w',hr,hkk⟩ | ⟨hent,hcalls⟩
   ·rw[hr] at h6
    exact dD h6 (fin v w' hkk)
   ·unfold Oper.wp
    rw[h6,hent]
    show Calls P s.f _ w _
    refine hcalls.mono ?_
    rintro e' w' ⟨v,rfl,hkk⟩
    exact fin v w' hkk
  split at h
  ·rename_i v0 hlog
   obtain⟨s',hs',hk',hpre,heq⟩:=hg.log _ (pS hlog)
   have:=hkeys s' hs' s hs hk'
   subst this
   exact main v0 kw (.refl _) hpre heq h hg
  ·obtain⟨hpre,heq,h⟩:=h
   refine main kw.vk.length {kw with log:=(s.key,e,kw.vk.length)::kw.log,vk:=kw.vk++s.ks.map vU} ⟨rfl,by simp⟩ hpre heq h ⟨hg.pc,?_,?_⟩
   ·exact arj hg.vk (ok.rng _ (agI hg.vk henc) hpre U _ heq)
   ·intro p hp
    rcases List.mem_cons.1 hp with rfl | hp
    ·exact⟨s,hs,rfl,hpre,heq⟩
    ·exact hg.log p hp
theorem ahO (hS:∀s∈cx.sm,SmOk P sp s) (hkeys:∀s∈cx.sm,∀s'∈cx.sm,s.key=s'.key->s=s') {c:Call} {kw:Kw} (hop:o.op=.call c) {f:Operand} (hc:c.callee=.value f) {g:Nat} (hf:vw.ev f=some (.one (.fn g))) {args:List V} (hl:evL vw.ev c.args.toList=some args)
  (h:(aoN cx vw g args kw k).holds sp G U I) (hg:Good sp cx.sm U kw):Sound P sp U G I base cx vw o k kw:=by
 unfold aoN at h
 obtain⟨kw',h1,g1,_,l1⟩:=aY _ _ _ h hg
 split at h1
 ·rename_i hin
  refine Sound.lv ?_ l1
  unfold ak0 at h1
  split at h1
  ·exact ads hS hkeys hop hc hf hl hin h1 g1
  ·exact h1.elim
 ·exact h1.elim
theorem ahL {c x y:Operand} {kw:Kw} (hop:o.op=.pick c x y) {e:E} {u v:V} (hc:vw.ev c=some (.one (.bool e))) (hx:vw.ev x=some u) (hy:vw.ev y=some v)
  (h:(decK e (fun b kw=>k {val:=if b then u else v} kw) kw).holds sp G U I) (hg:Good sp cx.sm U kw):Sound P sp U G I base cx vw o k kw:=by
 obtain⟨kw',h1,g1,_,l1⟩:=aY _ _ _ h hg
 refine⟨_,kw',h1,g1,l1,OpOk.pure fun j a w _ hev _ _ _=>⟨if e.B U then a.eval x else a.eval y,?_,?_⟩⟩
 ·have h2:=hev x (by simp[hop,Op.operands]) _ hx
  have h3:=hev y (by simp[hop,Op.operands]) _ hy
  cases e.B U
  ·exact h3
  ·exact h2
 ·have h2:=gX (hev c (by simp[hop,Op.operands]) _ hc)
  simp[execOp,hop,h2,asBool,Sem.run_bind]
theorem ou (hT:∀t i,(t,i)∈cx.ty->TIok P t i):∀(fs:List Field) (l pl:List (Nat×Nat)),fs.map (fun f=>(f.offset,f.type))=l->ml cx.ty l=some pl->∀w,(fs.mapM (m:=Sem) fun f=>do pure (f.offset,<-sizeOf f.type)).run P w=.ok pl w
 | [],l,pl,hl,h,w=>by subst hl;cases h;simp
 | f::fs,l,pl,hl,h,w=>by
   subst hl
   simp only[List.map_cons,ml] at h
   split at h
   ·rename_i i r hi hr
    cases h
    have:=(hT _ _ (an hi)).size
    rw[List.mapM_cons]
    simp only[Sem.run_bind,this,Result.andThen_ok,Sem.run_pure]
    rw[ou hT fs _ r rfl hr w]
    simp
   ·cases h
theorem adt (hT:∀t i,(t,i)∈cx.ty->TIok P t i) {t:Nat} {ps:Array (Nat×Operand)} {kw:Kw} (hop:o.op=.build t ps) {parts:List (Nat×V)} (hps:evP vw.ev ps.toList=some parts) {v:V} (hv:agY cx t parts=some v)
  (h:(k {val:=v} kw).holds sp G U I) (hg:Good sp cx.sm U kw):Sound P sp U G I base cx vw o k kw:=by
 refine⟨_,kw,h,hg,.refl _,OpOk.pure fun j a w _ hev _ _ _=> ?_⟩
 obtain⟨h1,h2⟩:=agC (a:=a) (j:=j) hps (fun x hx=>hev x (by
  simp only[hop,Op.operands]
  simpa using hx))
 have h3:(ps.map fun p=>(p.1,a.eval p.2)).toList=ps.toList.map fun p=>(p.1,a.eval p.2):=Array.toList_map ..
 have hx:execOp a.eval o=(do let v <-Instr.build t (ps.map fun p=>(p.1,a.eval p.2));pure (.value v)):=by simp only[execOp,hop]
 unfold agY at hv
 split at hv
 ·rename_i i hi
  have ht:=hT _ _ (an hi)
  obtain⟨z,hz,hzd⟩:=ht.zero
  split at hv
  ·rename_i n et ha
   split at hv
   ·rename_i ie hie
    rw[thm4] at hv
    obtain⟨cs,hcs,rfl⟩:=hv
    obtain⟨cells,h4,h5⟩:=sH (j:=j) parts _ cs _ z.cells hcs (hzd U j) h1 h2
    refine⟨.agg cells,by simp[V.den,h5],?_⟩
    have hs:=(hT _ _ (an hie)).size
    rw[hx]
    simp[Instr.build,Sem.run_bind,hz,run_underlying (ht.arr n et ha),hs,h3,h4]
   ·cases hv
  ·rename_i ha
   split at hv
   ·rename_i hagg
    split at hv
    ·rename_i pl hpl
     rw[thm4] at hv
     obtain⟨cs,hcs,rfl⟩:=hv
     obtain⟨cells,h4,h5⟩:=sH (j:=j) parts _ cs _ z.cells hcs (hzd U j) h1 h2
     refine⟨.agg cells,by simp[V.den,h5],?_⟩
     obtain⟨fs,hfs,hfl⟩:=ht.str hagg ha
     have hm:=ou hT fs.toList i.fields pl hfl hpl w
     have hm':(fs.mapM (m:=Sem) fun f=>do pure (f.offset,<-sizeOf f.type)).run P w=.ok pl.toArray w:=by
      rw[Array.mapM_eq_mapM_toList]
      rw[show(Functor.map List.toArray (List.mapM (fun f=>(do pure (f.offset,<-sizeOf f.type):Sem (Nat×Nat))) fs.toList):Sem (Array (Nat×Nat)))=(do let l <-List.mapM (fun f=>(do pure (f.offset,<-sizeOf f.type):Sem (Nat×Nat))) fs.toList;pure l.toArray) from rfl]
      rw[Sem.run_bind,hm]
      rfl
     have h6:(fun m:Nat=>pl.toArray[m]?)=fun m:Nat=>pl[m]? :=by funext m;simp
     rw[hx]
     simp only[Instr.build,Sem.run_bind,hz,run_underlying hfs,Result.andThen_ok,hm',h3,h6,h4,Sem.run_pure]
    ·cases hv
   ·cases hv
 ·cases hv
theorem aqs (hT:∀t i,(t,i)∈cx.ty->TIok P t i) (hS:∀s∈cx.sm,SmOk P sp s) (hkeys:∀s∈cx.sm,∀s'∈cx.sm,s.key=s'.key->s=s') {kw:Kw} (h:(opK cx vw o.op kw k).holds sp G U I) (hg:Good sp cx.sm U kw):Sound P sp U G I base cx vw o k kw:=by
 cases hop:o.op<;>rw[hop] at h<;>simp only[opK] at h
 case move x=>
  split at h
  ·rename_i v hv;exact yK (.inl hop) hv h hg
  ·exact h.elim
 case assign x=>
  split at h
  ·rename_i v hv;exact yK (.inr hop) hv h hg
  ·exact h.elim
 case alloc t=>
  split at h
  ·rename_i i hi;exact adu hT hop hi h hg
  ·exact h.elim
 case box t x=>
  split at h
  ·rename_i v hv
   split at h
   ·rename_i hf;exact al6 hop hv hf h hg
   ·exact h.elim
  ·exact h.elim
 case load t x=>
  split at h
  ·rename_i b off i hx hi
   split at h
   ·rename_i hagg
    split at h
    ·rename_i cs hcs;exact tV hT hop hx hi hagg (vw.rowok _ _ _ _ hcs) h hg
    ·exact h.elim
   ·rename_i hagg
    split at h
    ·rename_i c hc;exact tW hT hop hx hi hagg hc h hg
    ·exact h.elim
  ·rename_i b off i hx hi
   split at h
   ·rename_i hagg
    split at h
    ·rename_i cs hcs
     rw[bJ] at hcs
     obtain⟨c0,hc0,hcs⟩:=hcs
     split at h
     ·rename_i hsol
      exact qs hT hop hx hi hagg (by have:=adA (ld:=fun b o=>(vw.fb b).bind (·[o]?)) (b:=b) (k:=0) hcs (fun i=>by simp[hc0]);rwa [bn] at this) hsol h hg
     ·exact h.elim
    ·exact h.elim
   ·rename_i hagg
    split at h
    ·rename_i c hc
     split at h
     ·rename_i hsol;exact qt hT hop hx hi hagg hc hsol h hg
     ·exact h.elim
    ·exact h.elim
  ·rename_i b o0 n sz e off i hx hi
   split at h
   ·rename_i cs hcs
    split at h
    ·rename_i hq;exact adk hT hop hx hi hcs (thm3 hq) h hg
    ·exact h.elim
   ·exact h.elim
  ·rename_i id esz e off i hx hi
   split at h
   ·rename_i r hr
    split at h
    ·rename_i hq
     simp only[thm0,bl] at hq
     exact adl hT hop hx hi hr (thm1 hq.1) hq.2 h hg
    ·exact h.elim
   ·exact h.elim
  ·exact h.elim
 case store t x y=>
  split at h
  ·rename_i b off v i hx hy hi
   split at h
   ·rename_i hq
    simp only[thm0] at hq
    exact adi hT hop hx hy hi hq.1 hq.2.1 hq.2.2 h hg
   ·exact h.elim
  ·rename_i b o0 n sz e off v i hx hy hi
   split at h
   ·rename_i cs hcs
    split at h
    ·rename_i hq
     simp only[thm0,bl] at hq
     exact aaX hT hop hx hy hi hcs hq.1 (thm1 hq.2.1) hq.2.2.1 (thm1 hq.2.2.2) h hg
    ·exact h.elim
   ·exact h.elim
  ·rename_i id esz e off v i hx hy hi
   split at h
   ·rename_i r hr
    split at h
    ·rename_i hq
     simp only[thm0,bl] at hq
     exact aaY hT hop hx hy hi hr hq.1 (thm1 hq.2.1) hq.2.2.1 (thm1 hq.2.2.2.1) hq.2.2.2.2 h hg
    ·exact h.elim
   ·exact h.elim
  ·exact h.elim
 case nilCheck x=>
  split at h
  ·rename_i b off hx;exact dY hop hx (.inl (.inl ⟨b,off,rfl⟩)) h hg
  ·rename_i b off hx;exact dY hop hx (.inl (.inr (.inl ⟨b,off,rfl⟩))) h hg
  ·rename_i b o0 n sz e off hx;exact qq hop hx h hg
  ·rename_i g hx;exact dY hop hx (.inr ⟨g,rfl⟩) h hg
  ·rename_i id esz e off hx;exact dY hop hx (.inl (.inr (.inr ⟨id,esz,e,off,rfl⟩))) h hg
  ·rename_i g fs ps hx;exact qr hop hx h hg
  ·exact h.elim
  ·exact h.elim
 case binOp op xt x y yt=>
  split at h
  ·rename_i v u hx hy;exact al7 hT hop hx hy h hg
  ·exact h.elim
 case unOp op t x=>
  split at h
  ·rename_i e hx;exact adh hop hx h hg
  ·rename_i kd e hx;exact adh hop hx h hg
  ·rename_i kd e hx;exact adh hop hx h hg
  ·exact h.elim
 case convert s d x=>
  split at h
  ·rename_i k0 e i is hx hi his
   split at h
   ·rename_i kd hk;exact ahN hT hop hx hi his hk h hg
   ·exact h.elim
  ·exact h.elim
 case fieldAddr s x f=>
  split at h
  ·rename_i b off i hx hi
   split at h
   ·rename_i fo ft hf;exact dv hT hop hx hi hf (fun j v hv=>vx hv) h hg
   ·exact h.elim
  ·rename_i b off i hx hi
   split at h
   ·rename_i fo ft hf;exact dv hT hop hx hi hf (fun j v hv=>aju hv) h hg
   ·exact h.elim
  ·rename_i b o0 n sz e off i hx hi
   split at h
   ·rename_i fo ft hf;exact dv hT hop hx hi hf (fun j v hv=>aah hv) h hg
   ·exact h.elim
  ·rename_i id esz e off i hx hi
   split at h
   ·rename_i fo ft hf;exact dv hT hop hx hi hf (fun j v hv=>aai hv) h hg
   ·exact h.elim
  ·exact h.elim
 case field s x f=>
  split at h
  ·rename_i cs i hx hi
   split at h
   ·rename_i fo ft hf
    split at h
    ·rename_i v hv;exact ado hT hop hx hi hf hv h hg
    ·exact h.elim
   ·exact h.elim
  ·exact h.elim
 case indexAddr t x y=>
  split at h
  ·rename_i b off k0 e i hx hy hi
   split at h
   ·rename_i n et ha
    split at h
    ·rename_i ie hie
     split at h
     ·exact tX hT hop hx hy hi ha hie h hg
     ·exact js hT hop hx hy hi ha hie (c':=fun m=>.ptr b (off+m*ie.size)) (fun m j v hv=>vx hv) h hg
    ·exact h.elim
   ·exact h.elim
  ·rename_i id esz e0 off k0 e i hx hy hi
   split at h
   ·rename_i n et ha
    split at h
    ·rename_i ie hie;exact js hT hop hx hy hi ha hie (c':=fun m=>.ep id esz e0 (off+m*ie.size)) (fun m j v hv=>aai hv) h hg
    ·exact h.elim
   ·exact h.elim
  ·rename_i id k0 e i hx hy hi
   split at h
   ·rename_i et ha
    split at h
    ·rename_i ie r hie hr
     split at h
     ·rename_i hks;exact tY hT hop hx hy hi ha hie hr (thm1 hks) h hg
     ·exact h.elim
    ·exact h.elim
   ·exact h.elim
  ·exact h.elim
  ·exact h.elim
 case index t x y=>
  split at h
  ·rename_i cs k0 e i hx hy hi
   split at h
   ·rename_i n et ha
    split at h
    ·rename_i ie hie;exact adn hT hop hx hy hi ha hie h hg
    ·exact h.elim
   ·exact h.elim
  ·exact h.elim
 case pick c x y=>
  split at h
  ·rename_i e u v hc hx hy;exact ahL hop hc hx hy h hg
  ·exact h.elim
 case build t ps=>
  split at h
  ·rename_i parts hps
   split at h
   ·rename_i v hv;exact adt hT hop hps hv h hg
   ·exact h.elim
  ·exact h.elim
 case buildSlice t n ps=>
  split at h
  ·rename_i parts i hps hi
   split at h
   ·rename_i et ha
    split at h
    ·rename_i ie hie
     split at h
     ·rename_i ks cs hks hfill
      split at h
      ·rename_i l hl
       split at h
       ·rename_i hq
        simp only[thm0,bl] at hq
        exact o3 hT hop hps hi ha hie hfill hl ⟨hq.1,hq.2.1,thm1 hq.2.2⟩ h hg
       ·exact h.elim
      ·exact h.elim
     ·exact h.elim
    ·exact h.elim
   ·exact h.elim
  ·exact h.elim
 case makeSlice t x y=>
  first | exact h.elim | (cases mx<;>exact h.elim)
 case slice t x lo hi' mx=>
  first | exact h.elim | (cases mx<;>exact h.elim)
 case makeMap t rs=>
  cases rs with
  | some _=>exact h.elim
  | none=>
    exact h.elim
 case lookup t x y ok=>
  exact h.elim
 case mapUpdate t x y z=>
  exact h.elim
 case range t x=>
  exact h.elim
 case entry x=>
  exact h.elim
 case makeFunc fn fs ps=>
  split at h
  ·rename_i g x y hx hy;exact tU hop hx hy h hg
  ·exact h.elim
 case extract x n=>
  split at h
  ·rename_i vs hx
   split at h
   ·rename_i cs hp;exact mG hop hx hp (.inl ⟨cs,rfl,rfl⟩) h hg
   ·rename_i c hp;exact mG hop hx hp (.inr ⟨c,rfl,rfl⟩) h hg
   ·exact h.elim
  ·exact h.elim
 case call c=>
  split at h
  ·rename_i f hc
   split at h
   ·rename_i g args hf hl;exact ahO hS hkeys hop hc hf hl h hg
   ·exact h.elim
  ·rename_i hc
   split at h
   ·rename_i id t hl hty
    split at h
    ·rename_i i r hi hr
     split at h
     ·rename_i hsl;exact al5 hT hop hc hl hty hi hsl hr h hg
     ·exact h.elim
    ·exact h.elim
   ·rename_i t hl hty
    split at h
    ·rename_i i hi
     split at h
     ·rename_i hsl;exact ahM hT hop hc hl hty hi hsl h hg
     ·exact h.elim
    ·exact h.elim
   ·exact h.elim
  ·rename_i hc
   split at h
   ·rename_i s id t t' hl hty
    split at h
    ·rename_i i r hi hr
     split at h
     ·rename_i et ha
      split at h
      ·rename_i ie hie
       split at h
       ·rename_i hq
        simp only[thm0,bl] at hq
        have htt:=thm1 hq.1
        subst htt
        have hq':r.ty=et/\r.ks.length=ie.size/\0<ie.size/\ie.bytes<=65536:=⟨thm1 hq.2.1,thm1 hq.2.2.1,hq.2.2.2.1,hq.2.2.2.2⟩
        split at h
        ·exact wy hT hop hc hl hty hi ha hie hr hq' h hg
        ·rename_i old
         split at h
         ·rename_i q hrq
          split at h
          ·rename_i hq2
           simp only[thm0] at hq2
           exact aa2 hT hop hc hl hty hi ha hie hr hrq hq' ⟨hq2.1,thm1 hq2.2.1,bM hq2.2.2.1⟩ h hg
          ·exact h.elim
         ·exact h.elim
        ·exact h.elim
       ·exact h.elim
      ·exact h.elim
     ·exact h.elim
    ·exact h.elim
   ·exact h.elim
  ·rename_i hc
   split at h
   ·rename_i k0 e l hl
    split at h
    ·rename_i e' he;exact aj9 false hop hc hl he h hg
    ·exact h.elim
   ·exact h.elim
  ·rename_i hc
   split at h
   ·rename_i k0 e l hl
    split at h
    ·rename_i e' he;exact aj9 true hop hc hl he h hg
    ·exact h.elim
   ·exact h.elim
  ·exact h.elim
 all_goals exact h.elim
end
def idxE (vw:Vw) (o:Option Operand) (d:E):Option E:=match o with
 | none=>some d
 | some y=>match vw.ev y with
   | some (.one (.int _ e))=>some e
   | _=>none
def zW:C->C->Option Bool
 | .ptr _ _,.np | .fp _ _,.np | .np,.ptr _ _ | .np,.fp _ _ | .ep _ _ _ _,.np=>some false
 | .np,.np=>some true
 | _,_=>none
section
variable {P:Program} {sp:Spec} {U:Env} {G:Env->E->Prop} {I:Nat->List Dt->Prop} {base:Nat} {cx:Cx} {vw:Vw} {o:Oper} {k:Eff->Kw->Tr}
theorem agr {o1:Option Operand} {d e:E} (h:idxE vw o1 d=some e):(o1=none/\e=d)\/∃y kd,o1=some y/\vw.ev y=some (.one (.int kd e)):=by
 unfold idxE at h
 split at h
 ·cases h;exact .inl ⟨rfl,rfl⟩
 ·rename_i y
  split at h
  ·rename_i kd e' he;cases h;exact .inr ⟨y,kd,rfl,he⟩
  ·cases h
theorem afP {c d:C} {b:Bool} (h:zW c d=some b) {j:J} {x y:Value} (hx:(V.one c).den U j=some x) (hy:(V.one d).den U j=some y):∃p q,x=.pointer p/\y=.pointer q/\(p=none\/q=none)/\b=(p.isNone&&q.isNone):=by
 unfold zW at h
 split at h<;>cases h
 ·obtain⟨k,_,rfl⟩:=ke hx;cases hy;exact⟨_,_,rfl,rfl,.inr rfl,rfl⟩
 ·obtain⟨k,_,rfl⟩:=agw hx;cases hy;exact⟨_,_,rfl,rfl,.inr rfl,rfl⟩
 ·obtain⟨k,_,rfl⟩:=ke hy;cases hx;exact⟨_,_,rfl,rfl,.inl rfl,rfl⟩
 ·obtain⟨k,_,rfl⟩:=agw hy;cases hx;exact⟨_,_,rfl,rfl,.inl rfl,rfl⟩
 ·cases hy
  obtain⟨p,rfl⟩:=afO (.inr (.inr ⟨_,_,_,_,rfl⟩)) hx
  exact⟨_,_,rfl,rfl,.inr rfl,rfl⟩
 ·cases hx;cases hy;exact⟨_,_,rfl,rfl,.inl rfl,rfl⟩
theorem abb {t e:Nat} (hu:P.underlying t=some (.pointer e)) (p q:Option Addr) (h:p=none\/q=none) (w:World):(Op.equal t (.pointer p) (.pointer q)).run P w=.ok (p.isNone&&q.isNone) w:=by
 unfold Op.equal
 have key:∀d x y,(Op.equalIn (d+1) t x y).run P w=_:=fun d x y=>by rw[Op.equalIn,Sem.run_bind,run_underlying hu]
 rcases h with rfl | rfl
 ·refine(key 9999 _ _).trans ?_
  cases q<;>rfl
 ·refine(key 9999 _ _).trans ?_
  cases p<;>rfl
theorem adj (hT:∀t i,(t,i)∈cx.ty->TIok P t i) {op:BinOp} (hne:op=.eql\/op=.neq) {xt yt:Nat} {x y:Operand} {kw:Kw} (hop:o.op=.binOp op xt x y yt) {c d:C} (hx:vw.ev x=some (.one c)) (hy:vw.ev y=some (.one d)) {i:TI} (hi:av xt cx.ty=some i) (hk:i.kd=1) {b:Bool} (hb:zW c d=some b)
  (h:(k {val:=.one (.bool (.tt (if op=.eql then b else !b)))} kw).holds sp G U I) (hg:Good sp cx.sm U kw):Sound P sp U G I base cx vw o k kw:=by
 refine⟨_,kw,h,hg,.refl _,OpOk.pure fun j ac w _ hev _ _ _=>⟨.bool (if op=.eql then b else !b),by simp[V.den,C.den,E.B],?_⟩⟩
 obtain⟨e,hu⟩:=(hT _ _ (an hi)).ptr hk
 obtain⟨p,q,h1,h2,h3,rfl⟩:=afP hb (hev x (by simp[hop,Op.operands]) _ hx) (hev y (by simp[hop,Op.operands]) _ hy)
 have h4:=abb hu p q h3 w
 rcases hne with rfl | rfl<;>simp[execOp,hop,h1,h2,eqGuard,binOp,h4,Sem.run_bind]
theorem ac9:∀{a b:List (List Int)},(∀r∈a,aD [some .u8] r=true)->(∀r∈b,aD [some .u8] r=true)->lT a=lT b->a=b:=by
 have key:∀{a b:List (List Int)},(∀r∈a,aD [some .u8] r=true)->(∀r∈b,aD [some .u8] r=true)->(a.map fun r=>UInt8.ofNat (r.getD 0 0).toNat)=(b.map fun r=>UInt8.ofNat (r.getD 0 0).toNat)->a=b:=by
  intro a
  induction a with
  | nil=>intro b _ _ h;cases b with
    | nil=>rfl
    | cons=>simp at h
  | cons x a ih=>
    intro b ha hb h
    cases b with
    | nil=>simp at h
    | cons y b=>
      simp only[List.map_cons,thm5] at h
      have hx:=ha x bA
      have hy:=hb y bA
      have h1:=lG hx
      have h2:=lG hy
      have h3:=ih (fun r hr=>ha r (bZ _ hr)) (fun r hr=>hb r (bZ _ hr)) h.2
      match x,y,h1,h2 with
      | [u],[v],_,_=>
        have hu:inK .u8 u=true:=by simpa[aD,inCE] using hx
        have hv:inK .u8 v=true:=by simpa[aD,inCE] using hy
        rw[bp] at hu hv
        simp only[IntKind.min,IntKind.max,IntKind.signed,IntKind.bits] at hu hv
        simp at hu hv
        have h4:(UInt8.ofNat u.toNat).toNat=(UInt8.ofNat v.toNat).toNat:=by
         have:=h.1
         simp only[List.getD_cons_zero] at this
         rw[this]
        rw[UInt8.toNat_ofNat',UInt8.toNat_ofNat'] at h4
        have:u=v:=by omega
        rw[this,h3]
 intro a b ha hb h
 refine key ha hb ?_
 have:=congrArg (fun s:ByteArray=>s.data.toList) h
 simpa[lT] using this
theorem tZ (hT:∀t i,(t,i)∈cx.ty->TIok P t i) {op:BinOp} (hne:op=.eql\/op=.neq) {xt yt:Nat} {x y:Operand} {kw:Kw} (hop:o.op=.binOp op xt x y yt) {a b:E} (hx:vw.ev x=some (.one (.str a))) (hy:vw.ev y=some (.one (.str b))) {i:TI} (hi:av xt cx.ty=some i) (hk:i.kd=2) (hla:a.lok kw.vk [some .u8]=true) (hlb:b.lok kw.vk [some .u8]=true)
  (h:(k {val:=.one (.bool (if op=.eql then .leq a b else fD (.leq a b)))} kw).holds sp G U I) (hg:Good sp cx.sm U kw):Sound P sp U G I base cx vw o k kw:=by
 have hu:=(hT _ _ (an hi)).stg hk
 have heq:((lT (a.R U)).toList==(lT (b.R U)).toList)=(a.R U==b.R U):=by
  rw[aM,dl,dl,ByteArray.toList_eq,ByteArray.toList_eq]
  refine⟨fun h=>ac9 (E.lok_ok hg.vk a hla) (E.lok_ok hg.vk b hlb) ?_,fun h=>by rw[h]⟩
  have h2:(lT (a.R U)).data=(lT (b.R U)).data:=Array.toList_inj.1 h
  cases h3:lT (a.R U)
  cases h4:lT (b.R U)
  rw[h3,h4] at h2
  simp only at h2
  rw[h2]
 refine⟨_,kw,h,hg,.refl _,OpOk.pure fun j ac w _ hev _ _ _=>⟨.bool (if op=.eql then(a.R U==b.R U) else !(a.R U==b.R U)),?_,?_⟩⟩
 ·rcases hne with rfl | rfl<;>simp[V.den,C.den,cJ,E.B]
 ·have h1:ac.eval x=.string (lT (a.R U)):=(Option.some.inj (hev x (by simp[hop,Op.operands]) _ hx)).symm
  have h2:ac.eval y=.string (lT (b.R U)):=(Option.some.inj (hev y (by simp[hop,Op.operands]) _ hy)).symm
  rcases hne with rfl | rfl<;>simp[execOp,hop,h1,h2,eqGuard,binOp,Op.stringOp,heq,Sem.run_bind]
end
section
variable {P:Program} {sp:Spec} {U:Env} {G:Env->E->Prop} {I:Nat->List Dt->Prop} {base:Nat} {cx:Cx} {vw:Vw} {o:Oper} {k:Eff->Kw->Tr}
theorem aaZ (hT:∀t i,(t,i)∈cx.ty->TIok P t i) {t:Nat} {x y:Operand} {kw:Kw} (hop:o.op=.index t x y) {cs:List C} (hx:vw.ev x=some (.agg cs)) {k0:IntKind} {e:E} (hy:vw.ev y=some (.one (.int k0 e))) {i:TI} (hi:av t cx.ty=some i)
  {n et:Nat} (ha:i.arr=some (n,et)) {ie:TI} (hie:av et cx.ty=some ie) (hlen:cs.length=n*ie.size) (h:(decK (inR e n) (fun ok kw=>if ok then(match yh e n ie.size cs 0 ie.size with
    | some ds=>if ie.agg then k {val:=.agg ds} kw else(match ds with
      | [d]=>k {val:=.one d} kw
      | _=>.stuck 195)
    | none=>.stuck 196) else .panic) kw).holds sp G U I) (hg:Good sp cx.sm U kw):Sound P sp U G I base cx vw o k kw:=by
 obtain⟨kw1,g1,q1,_,l1⟩:=aY _ _ _ h hg
 rw[agq] at g1
 split at g1
 ·rename_i hr
  rw[thm0,bl,bl] at hr
  have hu:=(hT _ _ (an hi)).arr n et ha
  have ht:=hT _ _ (an hie)
  split at g1
  ·rename_i ds hds
   have key:∀{j:J} {a:Act} (w:World),(∀x∈o.op.operands.toList,∀v,vw.ev x=some v->v.den U j=some (a.eval x))->∃vs:List Value,denL U j ds=some ((vs.drop ((e.I U).toNat*ie.size+0)).take ie.size)/\ds.length=ie.size/\(execOp a.eval o).run P w=((part et vs.toArray ((e.I U).toNat*ie.size)).run P w).andThen fun v w=>.ok (.value v) w:=by
    intro j a w hev
    have hd:=hev x (by simp[hop,Op.operands]) _ hx
    simp only[V.den,thm4] at hd
    obtain⟨vs,hvs,hp⟩:=hd
    have hq:=cu (hev y (by simp[hop,Op.operands]) _ hy)
    obtain⟨e1,e2⟩:=sL hvs hr.1 hr.2 ie.size 0 ds hds
    refine⟨vs,e2,e1,?_⟩
    simp[execOp,hop,<-hp,hq,Instr.index,run_underlying hu,asIntOf,hr,ht.size,Sem.run_bind]
   split at g1
   ·rename_i hagg
    refine⟨_,kw1,g1,q1,l1,OpOk.pure fun j a w _ hev _ _ _=> ?_⟩
    obtain⟨vs,h1,h2,h3⟩:=key (j:=j) (a:=a) w hev
    refine⟨.agg ((vs.drop ((e.I U).toNat*ie.size+0)).take ie.size).toArray,by simp only[V.den,h1,Option.map_some],?_⟩
    rw[h3]
    have h4:vs.toArray.extract ((e.I U).toNat*ie.size) ((e.I U).toNat*ie.size+ie.size)=((vs.drop ((e.I U).toNat*ie.size+0)).take ie.size).toArray:=by
     simp[List.extract_eq_take_drop]
    simp only[part,Sem.run_bind,ht.agg,hagg,Result.andThen_ok,if_true,ht.size,h4,Sem.run_pure]
   ·rename_i hagg
    split at g1
    ·rename_i d
     refine⟨_,kw1,g1,q1,l1,OpOk.pure fun j a w _ hev _ _ _=> ?_⟩
     obtain⟨vs,h1,h2,h3⟩:=key (j:=j) (a:=a) w hev
     simp only[denL] at h1
     cases hdd:d.den U j with
     | none=>rw[hdd] at h1;cases h1
     | some v=>
       rw[hdd,bh] at h1
       refine⟨v,hdd,?_⟩
       have hz:ie.size=1:=h2.symm
       have h4:vs[(e.I U).toNat*ie.size]? =some v:=by
        have:=congrArg (fun l=>l[0]?) h1
        simp only[bK,List.getElem?_take,hz,List.getElem?_drop,Nat.add_zero] at this
        rw[if_pos (by omega)] at this
        rw[hz];exact this.symm
       have h5:vs.toArray[(e.I U).toNat*ie.size]? =some v:=by simpa using h4
       have hagg':ie.agg=false:=by simpa using hagg
       rw[h3]
       simp only[part,Sem.run_bind,ht.agg,hagg',Result.andThen_ok,h5]
       simp
    ·exact g1.elim
  ·exact g1.elim
 ·exact g1.elim
def opX (cx:Cx) (vw:Vw) (op:Op) (kw:Kw) (k:Eff->Kw->Tr):Option Tr:=match op with
 | .binOp op xt x y _=>match vw.ev x,vw.ev y with
   | some (.one c),some (.one d)=>match av xt cx.ty with
     | some i=>
       if Nat.beq i.kd 1 then(match zW c d,op with
        | some b,.eql=>some (k {val:=.one (.bool (.tt b))} kw)
        | some b,.neq=>some (k {val:=.one (.bool (.tt (!b)))} kw)
        | _,_=>none)
       else if Nat.beq i.kd 2 then(match c,d with
        | .str a,.str b=>if a.lok kw.vk [some .u8]&&b.lok kw.vk [some .u8] then(match op with
          | .eql=>some (k {val:=.one (.bool (.leq a b))} kw)
          | .neq=>some (k {val:=.one (.bool (fD (.leq a b)))} kw)
          | _=>none) else none
        | _,_=>none)
       else none
     | none=>none
   | _,_=>none
 | .index t x y=>match vw.ev x,vw.ev y,av t cx.ty with
   | some (.agg cs),some (.one (.int _ e)),some i=>if al0 cx &&!e.isLit then(match i.arr with
     | some (n,et)=>match av et cx.ty with
       | some ie=>if Nat.beq cs.length (n*ie.size) then some (decK (inR e n) (fun ok kw=>if ok then(match yh e n ie.size cs 0 ie.size with
        | some ds=>if ie.agg then k {val:=.agg ds} kw else(match ds with
          | [d]=>k {val:=.one d} kw
          | _=>.stuck 195)
        | none=>.stuck 196) else .panic) kw) else none
       | none=>none
     | none=>none) else none
   | _,_,_=>none
 | _=>none
theorem aqq (hT:∀t i,(t,i)∈cx.ty->TIok P t i) {kw:Kw} {tr:Tr} (ht:opX cx vw o.op kw k=some tr) (h:tr.holds sp G U I) (hg:Good sp cx.sm U kw):Sound P sp U G I base cx vw o k kw:=by
 cases hop:o.op<;>rw[hop] at ht<;>simp only[opX] at ht
 case binOp op xt x y yt=>
  split at ht
  ·rename_i c d hx hy
   split at ht
   ·rename_i i hi
    split at ht
    ·rename_i hk
     split at ht
     ·rename_i b hb;cases ht;exact adj hT (.inl rfl) hop hx hy hi (thm1 hk) hb h hg
     ·rename_i b hb;cases ht;exact adj hT (.inr rfl) hop hx hy hi (thm1 hk) hb h hg
     ·cases ht
    ·split at ht
     ·rename_i hk
      split at ht
      ·rename_i a b
       split at ht
       ·rename_i hl
        rw[thm0] at hl
        split at ht
        ·cases ht;exact tZ hT (.inl rfl) hop hx hy hi (thm1 hk) hl.1 hl.2 h hg
        ·cases ht;exact tZ hT (.inr rfl) hop hx hy hi (thm1 hk) hl.1 hl.2 h hg
        ·cases ht
       ·cases ht
      ·cases ht
     ·cases ht
   ·cases ht
  ·cases ht
 case index t x y=>
  split at ht
  ·rename_i cs k0 e i hx hy hi
   split at ht
   ·split at ht
    ·rename_i n et ha
     split at ht
     ·rename_i ie hie
      split at ht
      ·rename_i hl
       cases ht
       exact aaZ hT hop hx hy hi ha hie (thm1 hl) h hg
      ·cases ht
     ·cases ht
    ·cases ht
   ·cases ht
  ·cases ht
 all_goals cases ht
end
theorem RdRow.kept {w w':World} {esz:Nat} {s:SV} {xs:List Value} (h:RdRow w esz s xs) (hb:∀k,s.blk false=some k->w'.heap[k]? =w.heap[k]?):RdRow w' esz s xs:=by
 obtain⟨h1,h2,h3,h4,h5⟩:=h
 refine⟨h1,h2,h3,h4,fun a ha i u hu=> ?_⟩
 have hc:s.c≠0:=fun hc=>by
  have hlt:=(bR.1 hu).1
  have:s.n=0:=by omega
  rw[h1,this] at hlt
  omega
 have:=h5 a ha i u hu
 have hblk:(a.add i).block=a.block:=by unfold Addr.add;split<;>rfl
 have he:w'.heap[(a.add i).block]? =w.heap[(a.add i).block]? :=by
  rw[hblk]
  exact hb a.block (vX hc (by simp[SV.v,ha,Value.ownBlock]))
 rw[World.cell?_of_block he];exact this
def Vw.evw (vw:Vw) (id:Nat):Option RowOb:=match vw.rw id with
 | some r=>if r.kd.isEv then some r else none
 | none=>none
theorem Vw.evw_some {vw:Vw} {id:Nat} {r:RowOb} (h:vw.evw id=some r):vw.rw id=some r/\r.kd=.ev:=by
 unfold Vw.evw at h
 split at h
 ·rename_i q hq
  split at h
  ·rename_i hk
   cases h
   exact⟨hq,RK.isEv_eq hk⟩
  ·cases h
 ·cases h
section
variable {P:Program} {sp:Spec} {U:Env} {G:Env->E->Prop} {I:Nat->List Dt->Prop} {base:Nat} {cx:Cx} {vw:Vw} {o:Oper} {k:Eff->Kw->Tr}
theorem RrOk.ev {j:J} {w:World} {rr:List Nat} (h:RrOk U base j w vw.rw rr) (id:Nat) (hid:id∈rr) (r:RowOb) (hr:vw.evw id=some r):∃s,j.s id=some s/\EvOk U base w s r/\Zin j s/\∀p∈s.z,w.heap[p.1]? =some p.2:=by
 obtain⟨h1,h2⟩:=Vw.evw_some hr
 obtain⟨s,h3,h4,h5⟩:=h id hid r h1
 exact⟨s,h3,h4.2.2 h2,h5.1,h5.2.1⟩
def cutB (n:Nat) (lo hi:E):E:=oB (fD (mkLt lo (.lit 0))) (oB (fD (mkLt hi lo)) (fD (mkLt (.lit n) hi)))
theorem aq9 {n:Nat} {lo hi:E} (h:(cutB n lo hi).B U=true):0<=lo.I U/\lo.I U<=hi.I U/\hi.I U<=(n:Int):=by
 unfold cutB at h
 rw[eG,eG,thm0,thm0,cJ,cJ,cJ,eh,eh,eh,Bool.not_eq_true',Bool.not_eq_true',Bool.not_eq_true'] at h
 obtain⟨h1,h2,h3⟩:=h
 replace h1:¬lo.I U<0:=thm2 h1
 replace h2:=thm2 h2
 replace h3:¬(n:Int)<hi.I U:=thm2 h3
 exact⟨by omega,by omega,by omega⟩
theorem o4 {w:World} {n l h:Nat} {low high:Option Value} (hl:(low=none/\l=0)\/∃kd:IntKind,low=some (.int kd (l:Int))) (hh:(high=none/\h=n)\/∃kd:IntKind,high=some (.int kd (h:Int))) (h1:l<=h) (h2:h<=n):(Instr.sliceBounds false n n low high none).run P w=.ok (l,h,n) w:=by
 have sb:∀(kd:IntKind) (m y:Nat) code,m<=y->(Instr.sliceBound (.int kd (m:Int)) y code).run P w=.ok m w:=fun kd m y code hmy=>by
  have h5:(m:Int)<=(y:Int):=by omega
  simp[Instr.sliceBound,asIntOf,Sem.run_bind,hmy]
 rcases hl with⟨rfl,rfl⟩ | ⟨kd,rfl⟩<;>rcases hh with⟨rfl,rfl⟩ | ⟨kd',rfl⟩
 ·simp[Instr.sliceBounds,Sem.run_bind]
 ·simp[Instr.sliceBounds,Sem.run_bind,sb kd' h n _ h2]
 ·simp[Instr.sliceBounds,Sem.run_bind,sb kd l _ _ h1]
 ·simp[Instr.sliceBounds,Sem.run_bind,sb kd l h _ h1,sb kd' h n _ h2]
theorem aa0 (hT:∀t i,(t,i)∈cx.ty->TIok P t i) {t:Nat} {x:Operand} {lo hi':Option Operand} {kw:Kw} (hop:o.op=.slice t x lo hi' none) {b off:Nat} (hx:vw.ev x=some (.one (.ptr b off))) {i:TI} (hi:av t cx.ty=some i) {n et:Nat} (ha:i.arr=some (n,et)) {ie:TI} (hie:av et cx.ty=some ie)
  {a c:E} (hlo:idxE vw lo (.lit 0)=some a) (hhi:idxE vw hi' (.lit n)=some c)
  (h:(decK (cutB n a c) (fun ok kw=>if ok then k {val:=.one (.aw b off n ie.size a c (.lit n))} kw else .panic) kw).holds sp G U I) (hg:Good sp cx.sm U kw):Sound P sp U G I base cx vw o k kw:=by
 obtain⟨kw1,h1,g1,_,l1⟩:=aY _ _ _ h hg
 split at h1
 ·rename_i hb
  obtain⟨b1,b2,b3⟩:=aq9 hb
  refine⟨_,kw1,h1,g1,l1,OpOk.pure fun j ac w _ hev _ _ _=> ?_⟩
  obtain⟨kk,hk,hv⟩:=ke (hev x (by simp[hop,Op.operands]) _ hx)
  have hu:=(hT _ _ (an hi)).arr _ _ ha
  have hsz:=(hT _ _ (an hie)).size w
  have hl1:(lo.map ac.eval=none/\(a.I U).toNat=0)\/∃kd:IntKind,lo.map ac.eval=some (.int kd (((a.I U).toNat:Nat):Int)):=by
   rcases agr hlo with⟨rfl,rfl⟩ | ⟨y,kd,rfl,hy⟩
   ·exact .inl ⟨rfl,rfl⟩
   ·refine .inr ⟨kd,?_⟩
    rw[Option.map_some,cu (hev y (by simp[hop,Op.operands]) _ hy),Int.toNat_of_nonneg b1]
  have hh1:(hi'.map ac.eval=none/\(c.I U).toNat=n)\/∃kd:IntKind,hi'.map ac.eval=some (.int kd (((c.I U).toNat:Nat):Int)):=by
   rcases agr hhi with⟨rfl,rfl⟩ | ⟨y,kd,rfl,hy⟩
   ·exact .inl ⟨rfl,by simp[E.I]⟩
   ·refine .inr ⟨kd,?_⟩
    rw[Option.map_some,cu (hev y (by simp[hop,Op.operands]) _ hy),Int.toNat_of_nonneg (by omega)]
  refine⟨_,by simp only[V.den,C.den,hk,Option.map_some,E.I];rfl,?_⟩
  have b1':=o4 (P:=P) (w:=w) hl1 hh1 (by omega) (by omega)
  have hrun:(Instr.sliceAt t (.pointer (some ⟨kk,off,none⟩)) (lo.map ac.eval) (hi'.map ac.eval) none).run P w=.ok ((⟨some ⟨kk,off,none⟩,n,n,[]⟩:SV).cut ie.size (a.I U).toNat (c.I U).toNat n).v w:=by
   simp only[Instr.sliceAt,Sem.run_bind,run_underlying hu,Result.andThen_ok,Instr.sureAddr,asAddr,Sem.run_pure,b1',hsz,SV.cut,SV.v]
   congr 2
   split<;>rfl
  have e3:Option.map ac.eval (none:Option Operand)=none:=rfl
  simp only[execOp,hop,hv,Sem.run_bind,e3,hrun,Result.andThen_ok,Sem.run_pure]
  rfl
 ·exact h1.elim
def opY (cx:Cx) (vw:Vw) (op:Op) (kw:Kw) (k:Eff->Kw->Tr):Option Tr:=match op with
 | .slice t x lo hi mx=>match vw.ev x,av t cx.ty,mx with
   | some (.one (.ptr b off)),some i,none=>match i.arr with
     | some (n,et)=>match av et cx.ty,idxE vw lo (.lit 0),idxE vw hi (.lit n) with
       | some ie,some a,some c=>if lo.isSome||hi.isSome then some (decK (cutB n a c) (fun ok kw=>if ok then k {val:=.one (.aw b off n ie.size a c (.lit n))} kw else .panic) kw) else none
       | _,_,_=>none
     | none=>none
   | _,_,_=>none
 | _=>none
theorem aqp (hT:∀t i,(t,i)∈cx.ty->TIok P t i) {kw:Kw} {tr:Tr} (ht:opY cx vw o.op kw k=some tr) (h:tr.holds sp G U I) (hg:Good sp cx.sm U kw):Sound P sp U G I base cx vw o k kw:=by
 cases hop:o.op<;>rw[hop] at ht<;>simp only[opY] at ht
 case slice t x lo hi' mx=>
  split at ht
  ·rename_i b off i hx hi
   split at ht
   ·rename_i n et ha
    split at ht
    ·rename_i ie a c hie hlo hhi
     split at ht
     ·cases ht;exact aa0 hT hop hx hi ha hie hlo hhi h hg
     ·cases ht
    ·cases ht
   ·cases ht
  ·cases ht
 all_goals cases ht
def opKX (cx:Cx) (vw:Vw) (op:Op) (kw:Kw) (k:Eff->Kw->Tr):Tr:=match opY cx vw op kw k with
 | some t=>t
 | none=>match opX cx vw op kw k with
   | some t=>t
   | none=>opK cx vw op kw k
theorem an9 (hT:∀t i,(t,i)∈cx.ty->TIok P t i) (hS:∀s∈cx.sm,SmOk P sp s) (hkeys:∀s∈cx.sm,∀s'∈cx.sm,s.key=s'.key->s=s') {kw:Kw} (h:(opKX cx vw o.op kw k).holds sp G U I) (hg:Good sp cx.sm U kw):Sound P sp U G I base cx vw o k kw:=by
 unfold opKX at h
 split at h
 ·rename_i t ht;exact aqp hT ht h hg
 ·split at h
  ·rename_i t ht;exact aqq hT ht h hg
  ·exact aqs hT hS hkeys h hg
end
def alY (cx:Cx):Option (Nat×List CE×Nat):=match av 999995 cx.hints with
 | some [.tmpS t ks st]=>some (t,ks,st)
 | _=>none
def xT (cx:Cx) (t:Nat):Bool:=match av 999994 cx.hints with
 | some [.only l]=>l.any (Nat.beq t)
 | _=>false
def agm (cx:Cx) (t:Nat):Bool:=match av 999993 cx.hints with
 | some [.only l]=>l.any (Nat.beq t)
 | _=>false
def C.isZk (kd:IntKind):C->Bool
 | .int k (.lit z)=>aZ k kd&&fO z 0
 | _=>false
theorem abX {U:Env} {j:J} {kd:IntKind}:∀{cs:List C} {vs:List Value},cs.all (C.isZk kd)=true->denL U j cs=some vs->vs=List.replicate cs.length (.int kd 0)
 | [],vs,_,h=>by cases h;rfl
 | c::cs,vs,hc,h=>by
   rw[List.all_cons,thm0] at hc
   have h1:=hc.1
   unfold C.isZk at h1
   split at h1
   ·rename_i k z
    rw[thm0] at h1
    have e1:=az h1.1
    have e2:=du h1.2
    subst e1 e2
    simp only[denL,C.den,E.I] at h
    cases hl:denL U j cs with
    | none=>rw[hl] at h;cases h
    | some us=>
      rw[hl] at h;cases h
      rw[abX hc.2 hl]
      rfl
   ·cases h1
def qh:List CE->E
 | []=>.nil
 | none::ks=>.cb (.tt false) (qh ks)
 | some _::ks=>.cons (.lit 0) (qh ks)
theorem wc (U:Env):∀ks:List CE,(qh ks).L U=List.replicate ks.length 0
 | []=>rfl
 | none::ks=>by
   simp only[qh,E.L,wc U ks,E.B,List.length_cons,List.replicate_succ]
   rfl
 | some _::ks=>by simp only[qh,E.L,wc U ks,E.I,List.length_cons,List.replicate_succ]
theorem abW:∀ks:List CE,aD ks (List.replicate ks.length 0)=true
 | []=>rfl
 | none::ks=>by simp[List.replicate_succ,aD,inCE,abW ks]
 | some k::ks=>by simp[List.replicate_succ,aD,inCE,hC,abW ks]
def C.isNilp:C->Bool
 | .np=>true
 | _=>false
theorem vu {U:Env} {j:J}:∀{cs:List C} {vs:List Value},cs.all C.isNilp=true->denL U j cs=some vs->vs=(List.replicate cs.length (none:Option Addr)).map Value.pointer
 | [],vs,_,h=>by cases h;rfl
 | c::cs,vs,hc,h=>by
   rw[List.all_cons,thm0] at hc
   cases c<;>first | cases hc.1 | skip
   simp only[denL,C.den] at h
   cases hl:denL U j cs with
   | none=>rw[hl] at h;cases h
   | some us=>
     rw[hl] at h;cases h
     rw[vu hc.2 hl]
     rfl
def getE (l e:E):Nat->List CE->E
 | _,[]=>.nil
 | c,none::ks=>.cb (oA l e c) (getE l e (c+1) ks)
 | c,some _::ks=>.cons (af8 l e c) (getE l e (c+1) ks)
theorem akS {U:Env} {l e:E} {row:List Int} (h:(l.R U)[(e.I U).toNat]? =some row):∀(ks:List CE) (c:Nat),aD ks (row.drop c)=true->(getE l e c ks).L U=row.drop c
 | [],c,hr=>by
   cases hd:row.drop c with
   | nil=>rfl
   | cons x xs=>rw[hd] at hr;cases hr
 | k::ks,c,hr=>by
   cases hd:row.drop c with
   | nil=>rw[hd] at hr;cases hr
   | cons x xs=>
     have hx:row.getD c 0=x:=by
      have:=congrArg List.head? hd
      rw[List.head?_drop] at this
      rw[cN,this];rfl
     have hxs:row.drop (c+1)=xs:=by rw[<-List.tail_drop,hd];rfl
     rw[hd] at hr
     simp only[aD,thm0] at hr
     have hg:gt (l.R U) (e.I U) c=x:=by
      unfold gt
      rw[cN (l:=l.R U),h];exact hx
     have ih:=akS h ks (c+1) (by rw[hxs];exact hr.2)
     rw[hxs] at ih
     cases k with
     | some kd=>simp only[getE,E.L,af7,hg,ih]
     | none=>
       have h0:=hr.1
       simp only[inCE,bG,dl] at h0
       simp only[getE,E.L,sx,hg,ih]
       rcases h0 with rfl | rfl<;>rfl
def getF (l e:E) (c:Nat) (ks:List CE):E:=match(ki l e).bind (abC c) with
 | some t=>t
 | none=>getE l e c ks
theorem yf {U:Env}:∀{c:Nat} {row t:E},abC c row=some t->t.L U=(row.L U).drop c
 | 0,row,t,h=>by cases h;rfl
 | c+1,.cons _ u,t,h=>yf (c:=c) (row:=u) h
 | c+1,.cb _ u,t,h=>yf (c:=c) (row:=u) h
theorem agd {U:Env} {l e r:E} (h:ki l e=some r):(l.R U)[(e.I U).toNat]? =some (r.L U):=by
 unfold ki at h
 split at h
 ·rename_i i
  exact vg U l i r h
 ·cases h
theorem akR {U:Env} {l e:E} {row:List Int} (h:(l.R U)[(e.I U).toNat]? =some row) (ks:List CE) (c:Nat) (hr:aD ks (row.drop c)=true):(getF l e c ks).L U=row.drop c:=by
 unfold getF
 split
 ·rename_i t ht
  rw[bJ] at ht
  obtain⟨r,h1,h2⟩:=ht
  have h3:=agd (U:=U) h1
  rw[h] at h3
  cases h3
  exact yf h2
 ·exact akS h ks c hr
theorem kT:∀{ks:List CE} {row:List Int} (c:Nat),aD ks row=true->aD (ks.drop c) (row.drop c)=true
 | ks,row,0,h=>h
 | [],[],c+1,_=>rfl
 | k::ks,x::xs,c+1,h=>by
   simp only[aD,thm0] at h
   exact kT c h.2
theorem oc:∀{ks:List CE} {row:List Int} (c m:Nat),aD ks row=true->(rowV ks row)[c+m]? =(rowV (ks.drop c) (row.drop c))[m]?
 | ks,row,0,m,h=>by rw[bn];rfl
 | [],[],c+1,m,_=>by simp[rowV]
 | k::ks,x::xs,c+1,m,h=>by
   simp only[aD,thm0] at h
   rw[show c+1+m=(c+m)+1 by omega]
   simpa[rowV] using oc c m h.2
def lF:List CE->E->List C->Option E
 | _,t,[]=>some t
 | some k::ks,.cons _ t,.int k' x::cs=>if aZ k' k then(lF ks t cs).map (.cons x ·) else none
 | none::ks,.cb _ t,.bool x::cs=>(lF ks t cs).map (.cb x ·)
 | _,_,_=>none
def xC:Nat->List CE->E->List C->Option E
 | 0,ks,t,cs=>lF ks t cs
 | off+1,_::ks,.cons a t,cs=>(xC off ks t cs).map (.cons a ·)
 | off+1,_::ks,.cb a t,cs=>(xC off ks t cs).map (.cb a ·)
 | _,_,_,_=>none
theorem aj8 (R:List Int) (c:Nat) (x:Int):st [R] 0 c x=[R.set c x]:=rfl
theorem adz (P R:List Int) (y x:Int):(P++y::R).set P.length x=(P++[x])++R:=by simp
theorem od {U:Env} {vk:List VK}:∀(cs:List C) (ks:List CE) (t t' l:E) (Q:List Int),cs.all (C.rng vk)=true->lF ks t cs=some t'->l.R U=[Q++t.L U]->∃l',dO vk l (.lit 0) Q.length ks cs=some l'/\l'.R U=[Q++t'.L U]
 | [],ks,t,t',l,Q,_,h,hl=>by
   have e:t'=t:=by
    unfold lF at h
    cases ks with
    | nil=>exact(Option.some.inj h).symm
    | cons k ks=>cases k<;>exact(Option.some.inj h).symm
   subst e
   refine⟨l,?_,hl⟩
   unfold dO
   cases ks with
   | nil=>rfl
   | cons k ks=>cases k<;>rfl
 | c::cs,ks,t,t',l,Q,hr,h,hl=>by
   simp only[List.all_cons,thm0] at hr
   cases ks with
   | nil=>simp[lF] at h
   | cons k ks=>
     cases k with
     | some kd=>
       cases t<;>cases c<;>simp only[lF] at h<;>first | cases h | skip
       rename_i a t k' x
       split at h
       ·rename_i hk
        rw[thm4] at h
        obtain⟨t1,h1,rfl⟩:=h
        obtain⟨l',h2,h3⟩:=od (U:=U) cs ks t t1 (.lset l (.lit 0) Q.length x) (Q++[x.I U]) hr.2 h1 (by simp only[E.R,E.L,E.I,hl,aj8,adz])
        refine⟨l',?_,by rw[h3];simp[E.L]⟩
        have hk2:(aZ k' kd&&x.rng vk kd)=true:=by
         have h9:x.rng vk k'=true:=hr.1
         rw[az hk] at h9
         rw[hk,h9];rfl
        simp only[dO,hk2,if_true]
        rw[<-h2];simp
       ·cases h
     | none=>
       cases t<;>cases c<;>simp only[lF] at h<;>first | cases h | skip
       rename_i a t x
       rw[thm4] at h
       obtain⟨t1,h1,rfl⟩:=h
       obtain⟨l',h2,h3⟩:=od (U:=U) cs ks t t1 (.lsetb l (.lit 0) Q.length x) (Q++[b2i (x.B U)]) hr.2 h1 (by simp only[E.R,E.L,E.I,hl,aj8,adz])
       refine⟨l',?_,by rw[h3];simp[E.L]⟩
       simp only[dO]
       rw[<-h2];simp
theorem rY {U:Env} {vk:List VK}:∀(off:Nat) (cs:List C) (ks:List CE) (t t' l:E) (Q:List Int),cs.all (C.rng vk)=true->xC off ks t cs=some t'->l.R U=[Q++t.L U]->∃l',dO vk l (.lit 0) (Q.length+off) (ks.drop off) cs=some l'/\l'.R U=[Q++t'.L U]
 | 0,cs,ks,t,t',l,Q,hr,h,hl=>od cs ks t t' l Q hr (by cases ks<;>exact h) hl
 | off+1,cs,ks,t,t',l,Q,hr,h,hl=>by
   cases ks with
   | nil=>simp[xC] at h
   | cons k ks=>
     cases t<;>simp only[xC] at h<;>first | cases h | skip
     ·rename_i a t
      rw[thm4] at h
      obtain⟨t1,h1,rfl⟩:=h
      obtain⟨l',h2,h3⟩:=rY (U:=U) off cs ks t t1 l (Q++[a.I U]) hr h1 (by rw[hl];simp[E.L])
      refine⟨l',?_,by rw[h3];simp[E.L]⟩
      rw[<-h2];simp only[List.drop_succ_cons,eA,List.length_cons,List.length_nil]
      congr 1;omega
     ·rename_i a t
      rw[thm4] at h
      obtain⟨t1,h1,rfl⟩:=h
      obtain⟨l',h2,h3⟩:=rY (U:=U) off cs ks t t1 l (Q++[b2i (a.B U)]) hr h1 (by rw[hl];simp[E.L])
      refine⟨l',?_,by rw[h3];simp[E.L]⟩
      rw[<-h2];simp only[List.drop_succ_cons,eA,List.length_cons,List.length_nil]
      congr 1;omega
def selL (l e:E):E:=match l with
 | .lput _ e' row=>if e'.same e then .lq .ln row else l
 | l=>l
def selI (l e:E):E:=match l with
 | .lput _ e' _=>if e'.same e then .lit 0 else e
 | _=>e
theorem apk {U:Env} {l e:E} {row:List Int} (h:(l.R U)[(e.I U).toNat]? =some row):((selL l e).R U)[((selI l e).I U).toNat]? =some row:=by
 cases l<;>first | exact h | skip
 rename_i a e' r
 simp only[selL,selI]
 split
 ·rename_i hs
  have he:=E.same_eq hs
  subst he
  simp only[E.R] at h
  have hlt:=(bR.1 h).1
  rw[List.length_set] at hlt
  rw[List.getElem?_set_self hlt] at h
  simpa[E.R,E.I] using h
 ·exact h
def Vw.tabw (vw:Vw) (id:Nat):Option RowOb:=match vw.rw id with
 | some r=>match r.kd with
   | .tab=>some r
   | _=>none
 | none=>none
theorem Vw.tabw_some {vw:Vw} {id:Nat} {r:RowOb} (h:vw.tabw id=some r):vw.rw id=some r/\r.kd=.tab:=by
 unfold Vw.tabw at h
 split at h
 ·rename_i q hq
  split at h
  ·rename_i hk
   cases h
   exact⟨hq,hk⟩
  ·cases h
 ·cases h
section
variable {P:Program} {sp:Spec} {U:Env} {G:Env->E->Prop} {I:Nat->List Dt->Prop} {base:Nat} {cx:Cx} {vw:Vw} {o:Oper} {k:Eff->Kw->Tr}
theorem RrOk.tb {j:J} {w:World} {rr:List Nat} (h:RrOk U base j w vw.rw rr) (id:Nat) (hid:id∈rr) (r:RowOb) (hr:vw.tabw id=some r):∃s,j.s id=some s/\HdOk U base w s r/\TbAt U j w s r/\∀k o,j.g.z k=some o->w.heap[k]? =some o:=by
 obtain⟨h1,h2⟩:=Vw.tabw_some hr
 obtain⟨s,h3,h4,_,_,h5⟩:=h id hid r h1
 exact⟨s,h3,h4.2.1 (by rw[h2];rfl),(h5 h2).1,(h5 h2).2⟩
theorem afU {w:World} {cells:Array Value} {t:Nat} {ks:List CE} {r:E} (h1:cells.toList=rowV ks (r.L U)) (h2:aD ks (r.L U)=true) (h3:0<ks.length):RowOk U w.heap.size (w.alloc (.cells cells t)) ⟨some ⟨w.heap.size,0,none⟩,1,1,[]⟩ ⟨ks,t,.lq .ln r,true,.sl⟩:=by
 have e:(E.lq .ln r).R U=[r.L U]:=by simp[E.R]
 have f:flat ks [r.L U]=cells.toList:=by rw[h1];simp[flat]
 have hs:cells.size=1*ks.length:=by
  have:=congrArg List.length h1
  rw[cW h2] at this
  simpa using this
 have own:=World.ownsRow_lit (base:=w.heap.size) (e:=t) (size:=ks.length) w cells 1 (Nat.le_refl _) (by simp[maxLen]) hs
 refine RowOk.mk_own rfl (by rw[e];rfl) ⟨fun q hq=> ?_,by rw[e];simp[maxLen]⟩ h3 ?_
 ·rw[e,dk] at hq
  rw[hq];exact h2
 ·rw[e,f];exact own
theorem aaA {j:J} {nid n g a b:Nat}:(V.one (.ep nid n (.lit 0) 0)).den U (j.putL nid [⟨some ⟨g,0,none⟩,a,b,[]⟩])=some (.pointer (some ⟨g,0,none⟩)):=by
 simp[V.den,C.den,J.putL,SV.elem,E.I,ba]
theorem uc (hT:∀t i,(t,i)∈cx.ty->TIok P t i) {t:Nat} {kw:Kw} (hop:o.op=.alloc t) {i:TI} (hi:av t cx.ty=some i) {ks:List CE} {r:E} (hr:rowE kw.vk ks i.zero=some r) (hpos:0<ks.length)
  (h:(k {val:=.one (.ep vw.nid ks.length (.lit 0) 0),re:=.mk [⟨ks,t,.lq .ln r,true,.sl⟩]} kw).holds sp G U I) (hg:Good sp cx.sm U kw):Sound P sp U G I base cx vw o k kw:=by
 refine⟨_,kw,h,hg,.refl _,fun j a w hb hev hrd hwr hrr hfb K Q hK=> ?_⟩
 obtain⟨z,hz,hd⟩:=(hT _ _ (an hi)).zero
 obtain⟨h1,h2⟩:=oh hg.vk hr (hd U j)
 refine dD (w':=w.alloc (.cells z.cells t)) (v:=.pointer (some ⟨w.heap.size,0,none⟩)) ?_ (hK _ (j.putL vw.nid [⟨some ⟨w.heap.size,0,none⟩,1,1,[]⟩]) _ aaA (pH (Ext.of_grown (World.grownBy_alloc w _ none)) (afU h1 h2 hpos) rfl rfl))
 simp[execOp,hop,Instr.alloc,Sem.run_bind,hz,newVar,newRow,newObj,Sem.run]
theorem aa1 {t:Nat} {x:Operand} {kw:Kw} (hop:o.op=.box t x) {v:V} (hv:vw.ev x=some v) (hf:v.flat=true) {ks:List CE} {r:E} (hr:rowE kw.vk ks v.cells=some r) (hpos:0<ks.length)
  (h:(k {val:=.one (.ep vw.nid ks.length (.lit 0) 0),re:=.mk [⟨ks,t,.lq .ln r,true,.sl⟩]} kw).holds sp G U I) (hg:Good sp cx.sm U kw):Sound P sp U G I base cx vw o k kw:=by
 refine⟨_,kw,h,hg,.refl _,fun j a w hb hev hrd hwr hrr hfb K Q hK=> ?_⟩
 have hd:=V.cells_ok (hev x (by simp[hop,Op.operands]) v hv) hf
 obtain⟨h1,h2⟩:=oh hg.vk hr hd
 refine dD (w':=w.alloc (.cells (a.eval x).cells t)) (v:=.pointer (some ⟨w.heap.size,0,none⟩)) ?_ (hK _ (j.putL vw.nid [⟨some ⟨w.heap.size,0,none⟩,1,1,[]⟩]) _ aaA (pH (Ext.of_grown (World.grownBy_alloc w _ none)) (afU h1 h2 hpos) rfl rfl))
 simp[execOp,hop,Instr.box,Sem.run_bind,newVar,newRow,newObj,Sem.run]
theorem ub (hT:∀t i,(t,i)∈cx.ty->TIok P t i) {t:Nat} {kw:Kw} (hop:o.op=.alloc t) {i:TI} (hi:av t cx.ty=some i) (ks:List CE) (st:Nat) (hn:i.zero.all C.isNilp=true) (hl:i.zero.length<=65536)
  (h:(k {val:=.one (.ep vw.nid 1 (.lit 0) 0),re:=.mk [⟨none::ks,st,.lrep (.lit i.zero.length) (qh (none::ks)),true,.tab⟩]} kw).holds sp G U I) (hg:Good sp cx.sm U kw):Sound P sp U G I base cx vw o k kw:=by
 refine⟨_,kw,h,hg,.refl _,fun j a w hb hev hrd hwr hrr hfb K Q hK=> ?_⟩
 obtain⟨z,hz,hd⟩:=(hT _ _ (an hi)).zero
 have e:=vu hn (hd U j)
 have hcs:z.cells=((List.replicate i.zero.length (none:Option Addr)).map Value.pointer).toArray:=by
  rw[<-e,Array.toArray_toList]
 have hR:(E.lrep (.lit i.zero.length) (qh (none::ks))).R U=List.replicate i.zero.length (List.replicate (ks.length+1) 0):=by
  simp only[E.R,E.I,wc,dT,List.length_cons]
 have hhp:=heap_alloc_new w (.cells z.cells t)
 refine dD (w':=w.alloc (.cells z.cells t)) (v:=.pointer (some ⟨w.heap.size,0,none⟩)) ?_ (hK _ (j.putL vw.nid [⟨some ⟨w.heap.size,0,none⟩,1,1,[]⟩]) _ aaA (pH (Ext.of_grown (World.grownBy_alloc w _ none)) (HdOk.row ⟨rfl,⟨fun q hq=> ?_,?_⟩,rfl,w.heap.size,_,rfl,Nat.le_refl _,hhp,?_⟩ rfl) rfl rfl rfl (fun _ jj=>⟨w.heap.size,List.replicate i.zero.length none,t,rfl,by rw[<-hcs];exact hhp,by rw[hR];simp,fun m row p hm hp=> ?_⟩)))
 ·simp[execOp,hop,Instr.alloc,Sem.run_bind,hz,newVar,newRow,newObj,Sem.run]
 ·rw[hR] at hq
  rw[(List.mem_replicate.1 hq).2]
  exact abW (none::ks)
 ·rw[hR,List.length_replicate];simp only[maxLen];omega
 ·exact⟨List.replicate i.zero.length none,t,by rw[<-hcs]⟩
 ·have hp':=ez hp
  rw[(List.mem_replicate.1 hp').2]
  have hm:((E.lrep (.lit i.zero.length) (qh (none::ks))).R U)[m]? =some row:=hm
  rw[hR] at hm
  rw[(List.mem_replicate.1 (ez hm)).2]
  simp[PtIs,List.replicate_succ]
theorem ud (hT:∀t i,(t,i)∈cx.ty->TIok P t i) {t:Nat} {kw:Kw} (hop:o.op=.alloc t) {i:TI} (hi:av t cx.ty=some i) {kd:IntKind} (hn:i.zero.all (C.isZk kd)=true) (hl:i.zero.length<=65536)
  (h:(k {val:=.one (.ep vw.nid 1 (.lit 0) 0),re:=.mk [⟨[some kd],t,.lrep (.lit i.zero.length) (.cons (.lit 0) .nil),true,.sl⟩]} kw).holds sp G U I) (hg:Good sp cx.sm U kw):Sound P sp U G I base cx vw o k kw:=by
 refine⟨_,kw,h,hg,.refl _,fun j a w hb hev hrd hwr hrr hfb K Q hK=> ?_⟩
 obtain⟨z,hz,hd⟩:=(hT _ _ (an hi)).zero
 have e:=abX hn (hd U j)
 have hR:(E.lrep (.lit i.zero.length) (.cons (.lit 0) .nil)).R U=List.replicate i.zero.length [0]:=by
  simp only[E.R,E.I,E.L,dT]
 have hfl:flat [some kd] (List.replicate i.zero.length [0])=z.cells.toList:=by
  rw[e]
  generalize i.zero.length=m
  induction m with
  | zero=>rfl
  | succ m ih=>rw[List.replicate_succ,cK,ih,List.replicate_succ];rfl
 have hsz:z.cells.size=i.zero.length*1:=by
  have:=congrArg List.length e
  simpa using this
 have own:=World.ownsRow_lit (base:=w.heap.size) (e:=t) (size:=1) w z.cells i.zero.length (Nat.le_refl _) (by simp only[maxLen];omega) hsz
 refine dD (w':=w.alloc (.cells z.cells t)) (v:=.pointer (some ⟨w.heap.size,0,none⟩)) ?_ (hK _ (j.putL vw.nid [⟨some ⟨w.heap.size,0,none⟩,i.zero.length,i.zero.length,[]⟩]) _ aaA (pH (Ext.of_grown (World.grownBy_alloc w _ none)) (RowOk.mk_own rfl (by rw[hR];simp) ⟨fun q hq=> ?_,?_⟩ (by simp) (by rw[hR,hfl];exact own)) rfl rfl))
 ·simp[execOp,hop,Instr.alloc,Sem.run_bind,hz,newVar,newRow,newObj,Sem.run]
 ·rw[hR] at hq
  rw[(List.mem_replicate.1 hq).2]
  simp[aD,inCE,hC]
 ·rw[hR,List.length_replicate];simp only[maxLen];omega
theorem tS (hT:∀t i,(t,i)∈cx.ty->TIok P t i) {t:Nat} {x y:Operand} {kw:Kw} (hop:o.op=.indexAddr t x y) {id:Nat} (hx:vw.ev x=some (.one (.ep id 1 (.lit 0) 0))) {k0:IntKind} {e:E} (hy:vw.ev y=some (.one (.int k0 e))) {i:TI} (hi:av t cx.ty=some i)
  {n et:Nat} (ha:i.arr=some (n,et)) {ie:TI} (hie:av et cx.ty=some ie) (h1s:ie.size=1)
  (h:(decK (inR e n) (fun ok kw=>if ok then k {val:=.one (.ep id 1 e 0)} kw else .panic) kw).holds sp G U I) (hg:Good sp cx.sm U kw):Sound P sp U G I base cx vw o k kw:=by
 obtain⟨kw1,g1,q1,_,l1⟩:=aY _ _ _ h hg
 rw[agq] at g1
 split at g1
 ·rename_i hr
  rw[thm0,bl,bl] at hr
  have hu:=(hT _ _ (an hi)).arr n et ha
  have hs:=(hT _ _ (an hie)).size
  refine⟨_,kw1,g1,q1,l1,OpOk.pure fun j a w _ hev _ _ _=> ?_⟩
  have hd:=hev x (by simp[hop,Op.operands]) _ hx
  simp only[V.den,C.den,bJ,SV.elem,thm4] at hd
  obtain⟨s,hs1,p,hp,he⟩:=hd
  have hq:=cu (hev y (by simp[hop,Op.operands]) _ hy)
  refine⟨.pointer (some (p.add ((e.I U).toNat*1+0))),by simp[V.den,C.den,hs1,SV.elem,hp],?_⟩
  have he':=he.symm
  simp only[E.I,Int.toNat_zero,Nat.zero_mul,Nat.add_zero] at he'
  have hadd:(p.add 0).add ((e.I U).toNat*1)=p.add ((e.I U).toNat*1+0):=by rw[bX];congr 1;omega
  rw[<-hadd]
  simp[execOp,hop,he',hq,Instr.indexAt,run_underlying hu,Instr.sureAddr,asIntOf,hr,hs,h1s,Sem.run_bind]
 ·exact g1.elim
theorem sQ (g m:Nat):(⟨g,0,none⟩:Addr).add m=⟨g,m,none⟩:=by rw[ba,bn]
theorem yE {w:World} {g ty m:Nat} {ps:List (Option Addr)} {p:Option Addr} (hh:w.heap[g]? =some (.cells (ps.map Value.pointer).toArray ty (0,0))) (hp:ps[m]? =some p):w.cell? ⟨g,m,none⟩=some (.pointer p):=by
 simp[World.cell?,hh,hp]
theorem ww (hT:∀t i,(t,i)∈cx.ty->TIok P t i) {t:Nat} {x:Operand} {kw:Kw} (hop:o.op=.load t x) {id:Nat} {e:E} (hx:vw.ev x=some (.one (.ep id 1 e 0))) {i:TI} (hi:av t cx.ty=some i) (hagg:i.agg=false) {r:RowOb} (hr:vw.tabw id=some r) {ks:List CE} (hks:r.ks=none::ks) (hpos:0<ks.length)
  (h:(decK (inB e r.l) (fun ok kw=>if ok then decK (oA (selL r.l e) (selI r.l e) 0) (fun b kw=>if b then k {val:=.one (.ep vw.nid ks.length (.lit 0) 0),rr:=[id],re:=.peek ⟨ks,r.ty,.lq .ln (getF (selL r.l e) (selI r.l e) 1 ks),false,.sl⟩} kw else k {val:=.one .np,rr:=[id]} kw) kw else .stuck 270) kw).holds sp G U I) (hg:Good sp cx.sm U kw):Sound P sp U G I base cx vw o k kw:=by
 obtain⟨kw1,h1,g1,_,l1⟩:=aY _ _ _ h hg
 rw[xW] at h1
 have ht:=hT _ _ (an hi)
 split at h1
 ·rename_i hb
  simp only[thm0,bl] at hb
  obtain⟨kw2,h2,g2,_,l2⟩:=aY _ _ _ h1 g1
  rw[sx] at h2
  have hlt:(e.I U).toNat<(r.l.R U).length:=by omega
  have hrow:=thm6 hlt
  obtain⟨row,hrw⟩:∃row,row=(r.l.R U)[(e.I U).toNat]:=⟨_,rfl⟩
  rw[<-hrw] at hrow
  have hsel:=apk hrow
  have hg0:gt ((selL r.l e).R U) ((selI r.l e).I U) 0=row.getD 0 0:=by
   unfold gt
   rw[cN (l:=(selL r.l e).R U),hsel];rfl
  rw[hg0] at h2
  have cell:∀{j:J} {a:Act} {w:World} {s:SV},j.s id=some s->TbAt U j w s r->(V.one (.ep id 1 e 0)).den U j=some (a.eval x)->∃p,PtIs j r.ks row p/\(execOp a.eval o).run P w=.ok (.value (.pointer p)) w:=by
   intro j a w s hs htab hd
   obtain⟨g,ps,ty,a1,a2,a3,a4⟩:=htab
   obtain⟨q,hq,he⟩:=vL hs hd
   rw[a1] at hq;cases hq
   have hp:=thm6 (show(e.I U).toNat<ps.length by omega)
   refine⟨_,a4 _ _ _ hrow hp,?_⟩
   have hc:=yE a2 hp
   rw[sQ,Nat.mul_one,Nat.add_zero] at he
   simp[execOp,hop,he,Instr.loadAt,Instr.sureAddr,Sem.run_bind,loadVar,ht.agg,hagg,load,Sem.run,hc]
  split at h2
  ·rename_i h0
   rw[dl] at h0
   refine⟨_,kw2,h2,g2,l2.trans l1,fun j a w hbs hev hrd hwr hrr hfb K Q hK=> ?_⟩
   obtain⟨s,hs,hok,htab,hz⟩:=hrr.tb id (by simp) r hr
   obtain⟨p,hp,hrun⟩:=cell hs htab (hev x (by simp[hop,Op.operands]) _ hx)
   cases p with
   | none=>rw[show row.getD 0 0=0 from hp] at h0;cases h0
   | some q=>
     obtain⟨_,⟨b,f,rfl⟩,vs,ty,z1,z2⟩:=hp
     have hin:=hok.rows.row row (ez hrow)
     rw[hks] at hin z2
     have hin1:aD ks (row.drop 1)=true:=kT 1 hin
     have hL:=akR hsel ks 1 hin1
     have hh:=hz _ _ z1
     have hR:(E.lq .ln (getF (selL r.l e) (selI r.l e) 1 ks)).R U=[row.drop 1]:=by simp[E.R,hL]
     have hfl:flat ks [row.drop 1]=rowV ks (row.drop 1):=by simp[flat]
     refine dD (w':=w) hrun (hK _ (j.putS vw.nid ⟨some ⟨b,f,none⟩,1,1,[]⟩) w ?_ ⟨rfl,⟨some ⟨b,f,none⟩,1,1,[]⟩,SlOk.row ⟨by rw[hR];rfl,⟨fun q hq=> ?_,by rw[hR];simp[maxLen]⟩,hpos,fun k hk=> ?_,fun ho=>(by cases ho),?_⟩ rfl,fun k hk=> ?_,rfl,rfl,fun e=>(by cases e)⟩)
     ·simp[V.den,C.den,J.putS,SV.elem,E.I,ba]
     ·rw[hR,dk] at hq
      rw[hq];exact hin1
     ·have hk:=aJ hk
      simp only[SV.v,Value.ownBlock,bh] at hk
      subst hk
      exact(ey.1 hh).1
     ·show RdRow w ks.length _ (flat ks ((E.lq .ln (getF (selL r.l e) (selI r.l e) 1 ks)).R U))
      rw[hR,hfl]
      refine⟨by rw[cW hin1];simp,Nat.le_refl _,by simp[maxLen],fun h=>(by cases h),fun ad had m u hm=> ?_⟩
      cases had
      rw[ba]
      have e1:(rowV (none::ks) row)[m+1]? =some u:=by
       have:=oc (ks:=none::ks) 1 m hin
       rw[Nat.add_comm,this];exact hm
      have e2:=z2 m u e1
      simp only at e2 hh
      simp[World.cell?,hh,e2]
     ·have hk:=aJ hk
      simp only[SV.v,Value.ownBlock,bh] at hk
      subst hk
      exact⟨_,z1,rfl⟩
  ·rename_i h0
   refine⟨_,kw2,h2,g2,l2.trans l1,OpOk.pure fun j a w _ hev _ hrr _=> ?_⟩
   obtain⟨s,hs,hok,htab,hz⟩:=hrr.tb id (by simp) r hr
   obtain⟨p,hp,hrun⟩:=cell hs htab (hev x (by simp[hop,Op.operands]) _ hx)
   cases p with
   | none=>exact⟨_,rfl,hrun⟩
   | some q=>exact absurd (by rw[hp.1];rfl) h0
 ·exact h1.elim
theorem tR (hT:∀t i,(t,i)∈cx.ty->TIok P t i) {t:Nat} {x y:Operand} {kw:Kw} (hop:o.op=.store t x y) {id xid fo:Nat} {e:E} (hx:vw.ev x=some (.one (.ep id 1 e 0))) {r q:RowOb} (hy:vw.ev y=some (.one (.ep xid q.ks.length (.lit 0) fo))) {i:TI} (hi:av t cx.ty=some i) (h1s:i.size=1) (hr:vw.tabw id=some r) {ks:List CE} (hks:r.ks=none::ks) (hq:vw.sw xid=some q) (hown:q.own=true) (hqk:q.ks.drop fo=ks)
  (h:(decK (inB e r.l) (fun ok kw=>if ok then decK (inB (.lit 0) q.l) (fun ok kw=>if ok then k {val:=.one .undef,rr:=[xid,id],re:=.tset xid {q with own:=false} id {r with l:=.lput r.l e (.cb (.tt true) (getF q.l (.lit 0) fo ks))}} kw else .stuck 271) kw else .stuck 272) kw).holds sp G U I) (hg:Good sp cx.sm U kw):Sound P sp U G I base cx vw o k kw:=by
 obtain⟨kw1,h1,g1,_,l1⟩:=aY _ _ _ h hg
 rw[xW] at h1
 have ht:=hT _ _ (an hi)
 split at h1
 ·rename_i hb
  simp only[thm0,bl] at hb
  obtain⟨kw2,h2,g2,_,l2⟩:=aY _ _ _ h1 g1
  rw[xW] at h2
  split at h2
  ·rename_i hb0
   simp only[thm0,bl,E.I] at hb0
   refine⟨_,kw2,h2,g2,l2.trans l1,fun j a w hbs hev hrd hwr hrr hfb K Q hK=> ?_⟩
   obtain⟨st,hst,hok,htab,hz⟩:=hrr.tb id (by simp) r hr
   obtain⟨s,hs,hq1⟩:=hrr.sl xid (by simp) q hq
   obtain⟨g,ps,ty,a1,a2,a3,a4⟩:=htab
   obtain⟨pa,hpa,he⟩:=vL hst (hev x (by simp[hop,Op.operands]) _ hx)
   rw[a1] at hpa;cases hpa
   rw[sQ,Nat.mul_one,Nat.add_zero] at he
   obtain⟨pb,hpb,hv⟩:=vL hs (hev y (by simp[hop,Op.operands]) _ hy)
   have howns:=hq1.own hown
   obtain⟨kb,cap,cur,b1,b2,b3,b4⟩:∃kb cap cur,s.v=.slice (some ⟨kb,0,none⟩) s.n cap/\w.heap[kb]? =some (.cells cur q.ty (0,0))/\cur.toList.take (s.n*q.ks.length)=flat q.ks (q.l.R U)/\pb=⟨kb,0,none⟩:=by
    rcases howns.2 with⟨c1,c2⟩ | ⟨kb,cap,cur,c1,_,c2,_,_,_,c3⟩
    ·simp only[SV.v,hpb] at c1;cases c1
    ·refine⟨kb,cap,cur,c1,c2,c3,?_⟩
     simp only[SV.v,hpb,Value.slice.injEq,bh] at c1
     exact c1.1
   subst b4
   have hvv:a.eval y=.pointer (some ⟨kb,fo,none⟩):=by
    rw[hv,sQ];simp[E.I]
   have h0:0<(q.l.R U).length:=by have hh:=hb0.2;exact Int.ofNat_lt.1 (thm3 hh)
   have hrow0:=thm6 h0
   obtain⟨row,hrw⟩:∃row,row=(q.l.R U)[0]:=⟨_,rfl⟩
   rw[<-hrw] at hrow0
   have hin:=hq1.rows.row row (ez hrow0)
   have hin1:=kT fo hin
   rw[hqk] at hin1
   have hL:=akR (U:=U) (e:=.lit 0) hrow0 ks fo hin1
   have hlt:(e.I U).toNat<ps.length:=by omega
   have hcell:=yE a2 (thm6 hlt)
   have hfr:w.frozen? ⟨g,(e.I U).toNat,none⟩=false:=by simp[World.frozen?,a2]
   have hw2:=heap_setCell_same w g (e.I U).toNat (ps.map Value.pointer).toArray ty (.pointer (some ⟨kb,fo,none⟩)) a2
   have hset:((ps.map Value.pointer).toArray.setIfInBounds (e.I U).toNat (.pointer (some ⟨kb,fo,none⟩)))=((ps.set (e.I U).toNat (some ⟨kb,fo,none⟩)).map Value.pointer).toArray:=by
    simp[List.map_set]
   rw[hset] at hw2
   have hR:(E.lput r.l e (.cb (.tt true) (getF q.l (.lit 0) fo ks))).R U=(r.l.R U).set (e.I U).toNat (1::row.drop fo):=by
    simp only[E.R,E.L,hL,E.B];rfl
   have hnew:aD (none::ks) (1::row.drop fo)=true:=by simp[aD,inCE,hin1]
   have hst2:st.v.ownBlock=some g:=by simp[SV.v,a1,Value.ownBlock]
   refine sT (w':=w.setCell ⟨g,(e.I U).toNat,none⟩ (.pointer (some ⟨kb,fo,none⟩))) ?_ (hK _ (j.addz [(kb,.cells cur q.ty (0,0))]) _ rfl ⟨s,st,kb,.cells cur q.ty (0,0),hs,hst,hq1.shut.row (Vw.sw_some hq).2,HdOk.row ⟨hok.own,⟨fun z hz'=> ?_,?_⟩,hok.c,g,_,a1,?_,hw2,?_⟩ (by rw[show r.kd=.tab from(Vw.tabw_some hr).2];rfl),by rw[b1];rfl,b2,rfl,?_,rfl,⟨g,ps.set (e.I U).toNat (some ⟨kb,fo,none⟩),ty,a1,hw2,?_,fun m row' p hm hp=> ?_⟩,fun e=>by rw[show q.kd=.sl from(Vw.sw_some hq).2] at e;cases e⟩)
   ·have hst1:(storeCells ⟨g,(e.I U).toNat,none⟩ [Value.pointer (some ⟨kb,fo,none⟩)] 0).run P w=.ok () (w.setCell ⟨g,(e.I U).toNat,none⟩ (.pointer (some ⟨kb,fo,none⟩))):=by
     have hone:(Value.pointer (some ⟨kb,fo,none⟩)).oneCell'=true:=rfl
     simp only[storeCells,ba,Nat.add_zero,Sem.run_bind,run_store P w _ _ _ hone,hcell,hfr,Result.andThen_ok,Bool.false_eq_true,if_false,Sem.run_pure]
    have hcs:(Value.pointer (some ⟨kb,fo,none⟩)).cells = #[Value.pointer (some ⟨kb,fo,none⟩)]:=rfl
    simp[execOp,hop,he,hvv,Instr.storeAt,Instr.sureAddr,Sem.run_bind,storeVar,ht.size,h1s,hcs,hst1]
   ·have hz':z∈(E.lput r.l e (.cb (.tt true) (getF q.l (.lit 0) fo ks))).R U:=hz'
    rw[hR] at hz'
    rcases List.mem_or_eq_of_mem_set hz' with h' | h'
    ·exact hok.rows.row z h'
    ·show aD r.ks z=true
     rw[hks,h'];exact hnew
   ·show((E.lput r.l e (.cb (.tt true) (getF q.l (.lit 0) fo ks))).R U).length<=maxLen
    rw[hR,List.length_set];exact hok.rows.len
   ·obtain⟨g',o',c1,c2,_⟩:=hok.at'
    rw[a1] at c1;cases c1;exact c2
   ·show obOf U st {r with l:=_} _
    unfold obOf
    simp only[(Vw.tabw_some hr).2]
    exact⟨_,_,rfl⟩
   ·rw[hst2]
    exact⟨rfl,rfl,rfl,by simp[World.setCell],fun k _ hk=>heap_setCell_other w _ k _ (fun e=>hk (by rw[e]))⟩
   ·show _=((E.lput r.l e (.cb (.tt true) (getF q.l (.lit 0) fo ks))).R U).length
    rw[hR,List.length_set,List.length_set,a3]
   ·have hm:((E.lput r.l e (.cb (.tt true) (getF q.l (.lit 0) fo ks))).R U)[m]? =some row':=hm
    have hzk:(j.addz [(kb,.cells cur q.ty (0,0))]).g.z kb=some (.cells cur q.ty (0,0)):=by simp[J.addz,J.setz,Gh.setz]
    have hold:∀k o,isCl o=true->j.g.z k=some o->(j.addz [(kb,.cells cur q.ty (0,0))]).g.z k=some o:=fun k o _ hko=>by
     by_cases hkk:k=kb
     ·have:=hz k o hko
      rw[hkk,b2] at this
      cases this
      rw[hkk];exact hzk
     ·simp[J.addz,J.setz,Gh.setz,hkk,hko]
    rw[hR] at hm
    show PtIs _ r.ks row' p
    by_cases hmi:(e.I U).toNat=m
    ·rw[<-hmi,List.getElem?_set_self (by omega)] at hm
     rw[<-hmi,List.getElem?_set_self hlt] at hp
     cases hm;cases hp
     refine⟨rfl,⟨kb,fo,rfl⟩,cur,q.ty,hzk,fun c v hc=> ?_⟩
     rw[hks] at hc
     have hc:(rowV ks (row.drop fo))[c]? =some v:=hc
     have hd:=oc fo c hin
     rw[hqk] at hd
     rw[<-hd] at hc
     have hfl:(flat q.ks (q.l.R U))[fo+c]? =some v:=by
      obtain⟨L',hL'⟩:∃L',q.l.R U=row::L':=by
       cases hqq:q.l.R U with
       | nil=>rw[hqq] at h0;simp at h0
       | cons z L'=>
         rw[hqq] at hrow0
         simp at hrow0
         exact⟨L',by rw[hrow0]⟩
      rw[hL',cK,thm8 (bR.1 hc).1]
      exact hc
     rw[<-b3,List.getElem?_take] at hfl
     split at hfl
     ·simpa using hfl
     ·cases hfl
    ·rw[List.getElem?_set_ne hmi] at hm hp
     exact(a4 m row' p hm hp).mono hold
  ·exact h2.elim
 ·exact h1.elim
theorem wx (hT:∀t i,(t,i)∈cx.ty->TIok P t i) {t:Nat} {x y:Operand} {kw:Kw} (hop:o.op=.store t x y) {id off:Nat} {r:RowOb} (hx:vw.ev x=some (.one (.ep id r.ks.length (.lit 0) off))) {v:V} (hy:vw.ev y=some v) {i:TI} (hi:av t cx.ty=some i)
  (hr:vw.sw id=some r) (hrown:r.own=true) (hf:v.flat=true) (hn:v.cells.length=i.size) (hoff:off+i.size<=r.ks.length) {row row':E} (hl:r.l=.lq .ln row) (hrg:rngs kw.vk v.cells kw.vk 0=true) (hsp:xC off r.ks row v.cells=some row')
  (h:(k {val:=.one .undef,rr:=[id],re:=.set id {r with l:=.lq .ln row'}} kw).holds sp G U I) (hg:Good sp cx.sm U kw):Sound P sp U G I base cx vw o k kw:=by
 have ht:=hT _ _ (an hi)
 obtain⟨l',hp1,hp2⟩:=rY (U:=U) off v.cells r.ks row row' (.lq .ln row) [] (rngs_ok _ kw.vk 0 rfl hrg) hsp (by simp[E.R])
 simp only[List.length_nil,bn,List.nil_append] at hp1 hp2
 have hR':(E.lq .ln row').R U=l'.R U:=by rw[hp2];simp[E.R]
 refine⟨_,kw,h,hg,.refl _,fun j a w _ hev hrd hwr hrr hfb K Q hK=> ?_⟩
 obtain⟨s,hs,hok⟩:=hrr.sl id (by simp) r hr
 obtain⟨p,hp,he⟩:=vL hs (hev x (by simp[hop,Op.operands]) _ hx)
 have hd:=V.cells_ok (hev y (by simp[hop,Op.operands]) v hy) hf
 have hown:=hok.own hrown
 obtain⟨g,rfl,hsv⟩:=aaa hown hp
 rw[hsv] at hown
 have hrows:=hok.rows
 rw[hl] at hown hrows
 obtain⟨w',h2,h3,h4,h5,h6⟩:=gv (P:=P) hg.vk (r.ks.drop off) v.cells (.lq .ln row) l' off 0 _ w ((⟨g,0,none⟩:Addr).add (((E.lit 0).I U).toNat*r.ks.length+off)) hp1 hd r.ks (fun m=>by rw[List.getElem?_drop]) hrows (by simp[E.I,E.R]) hown
  (fun m=>by rw[bX,ba];congr 1;omega)
 have hsz:(a.eval y).cells.size=i.size:=by
  have:=aL hd
  rw[Array.length_toList,hn] at this
  exact this
 have hn1:s.n=1:=by rw[hok.n,hl];simp[E.R]
 refine sT (w':=w') ?_ (hK _ j w' rfl ⟨rfl,s,hs,?_,RowOk.mk_own (r:={r with l:=.lq .ln row'}) (Vw.sw_some hr).2 (by rw[hn1];simp[E.R]) (by rw[hR'];exact h5) hok.pos (by rw[hsv];simp only;rw[hR'];exact h3),fun e=>by rw[show r.kd=.sl from(Vw.sw_some hr).2] at e;cases e⟩)
 ·simp[execOp,hop,he,Instr.storeAt,Instr.sureAddr,Sem.run_bind,storeVar,ht.size,hsz,h2]
 ·rw[hsv];exact h4
theorem adr (hT:∀t i,(t,i)∈cx.ty->TIok P t i) {c:Call} {kw:Kw} (hop:o.op=.call c) (hc:c.callee=.builtin .clear) {b off n sz l0 l1:Nat} {mx:E} {t:Nat} (hl:evL vw.ev c.args.toList=some [.one (.aw b off n sz (.lit l0) (.lit l1) mx)]) (hty:c.argTypes.toList=[t]) {i:TI} (hi:av t cx.ty=some i) {et:Nat} (ha:i.sle=some et) {ie:TI} (hie:av et cx.ty=some ie)
  (hsz:ie.size=sz) (hlt:l0<l1) (hmx:(mx.I U).toNat≠l0) (hsol:((List.replicate (l1-l0) ie.zero).flatten).all C.solid=true)
  (h:(k {val:=.tup [],wr:=dp b (off+l0*sz) ((List.replicate (l1-l0) ie.zero).flatten)} kw).holds sp G U I) (hg:Good sp cx.sm U kw):Sound P sp U G I base cx vw o k kw:=by
 refine⟨_,kw,h,hg,.refl _,fun j a w _ hev hrd hwr _ _ K Q hK=> ?_⟩
 obtain⟨h1,h2⟩:=gJ (j:=j) (a:=a) hl (fun x hx=>hev x (by simp[hop,Op.operands,Call.operands];exact .inr (by simpa using hx)))
 obtain⟨u,hu1,hu2⟩:∃u,c.args.toList.map a.eval=[u]/\(V.one (.aw b off n sz (.lit l0) (.lit l1) mx)).den U j=some u:=by
  match hm:c.args.toList.map a.eval,h2 with
  | [u],_=>exact⟨u,rfl,h1 0 _ u rfl (by rw[hm];rfl)⟩
 have hargs:c.args.map a.eval = #[u]:=by rw[<-Array.toArray_toList (xs:=c.args.map a.eval),Array.toList_map,hu1]
 have hat:c.argTypes = #[t]:=by rw[<-Array.toArray_toList (xs:=c.argTypes),hty]
 have hu:=(hT _ _ (an hi)).sle et ha
 obtain⟨z,hz,hzd⟩:=(hT _ _ (an hie)).zero
 obtain⟨inf,z',hinf,hisz,_,hz',hzl,_⟩:=(hT _ _ (an hie)).info
 simp only[V.den,C.den,thm4] at hu2
 obtain⟨kk,hk,rfl⟩:=hu2
 have hzc:z.cells.size=sz:=by
  have e1:=aL (hzd U j)
  have e2:(zeroValue et).run P w=.ok z' w:=by simp[zeroValue,typeInfo,hinf,hz',Sem.run_bind]
  rw[hz w] at e2
  cases e2
  rw[Array.length_toList] at hzl
  rw[hzl,hsz]
 have hden:denL U j ((List.replicate (l1-l0) ie.zero).flatten)=some (Builtin.zeroCells z.cells (l1-l0)).toList:=by
  have e1:(Builtin.zeroCells z.cells (l1-l0)).toList=(List.replicate (l1-l0) z.cells.toList).flatten:=aal z.cells (l1-l0)
  rw[e1]
  generalize l1-l0=m
  induction m with
  | zero=>rfl
  | succ m ih=>
    simp only[List.replicate_succ,List.flatten_cons]
    exact fH (hzd U j) ih
 obtain⟨w',hw1,hw2⟩:=cY (P:=P) hk ⟨kk,off+l0*sz,none⟩ ((List.replicate (l1-l0) ie.zero).flatten) (off+l0*sz) 0 _ w (fun m=>by rw[bn,ba]) hden hsol hwr
 refine dD (w':=w') (v:=.tuple #[]) ?_ (hK _ j w' rfl ⟨rfl,w,.refl w,hw1⟩)
 have hcut:((⟨some ⟨kk,off,none⟩,n,n,[]⟩:SV).cut sz ((E.lit (l0:Int)).I U).toNat ((E.lit (l1:Int)).I U).toNat (mx.I U).toNat).v=.slice (some ⟨kk,off+l0*sz,none⟩) (l1-l0) ((mx.I U).toNat-l0):=by
  have e5:((E.lit (l0:Int)).I U).toNat=l0:=dT l0
  have e6:((E.lit (l1:Int)).I U).toNat=l1:=dT l1
  rw[e5,e6]
  simp only[SV.cut,SV.v]
  rw[if_neg hmx]
  simp only[Option.map_some,ba]
 rw[hcut] at hargs
 obtain⟨m,hm⟩:∃m,l1-l0=m+1:=⟨l1-l0-1,by omega⟩
 rw[hm] at hargs hw2
 simp only[execOp,hop,resolve,hc,hargs,hat,Sem.run_bind,Sem.run_pure,Result.andThen_ok,invoke,builtin]
 simp[Builtin.clear_,run_underlying hu,hz,hw2,Sem.run_bind]
def opT (cx:Cx) (vw:Vw) (op:Op) (kw:Kw) (k:Eff->Kw->Tr):Option Tr:=match op with
 | .alloc t=>match av t cx.ty with
   | some i=>if xT cx t then(match ksOf i.zero with
    | some ks=>match rowE kw.vk ks i.zero with
      | some r=>if decide (0<ks.length) then some (k {val:=.one (.ep vw.nid ks.length (.lit 0) 0),re:=.mk [⟨ks,t,.lq .ln r,true,.sl⟩]} kw) else none
      | none=>none
    | none=>none)
     else if agm cx t then(match i.zero with
      | .int kd _::_=>if i.zero.all (C.isZk kd)&&decide (i.zero.length<=65536) then some (k {val:=.one (.ep vw.nid 1 (.lit 0) 0),re:=.mk [⟨[some kd],t,.lrep (.lit i.zero.length) (.cons (.lit 0) .nil),true,.sl⟩]} kw) else none
      | _=>none)
     else match alY cx with
      | some (t',ks,st)=>if Nat.beq t t'&&(i.zero.all C.isNilp&&decide (i.zero.length<=65536)) then some (k {val:=.one (.ep vw.nid 1 (.lit 0) 0),re:=.mk [⟨none::ks,st,.lrep (.lit i.zero.length) (qh (none::ks)),true,.tab⟩]} kw) else none
      | none=>none
   | none=>none
 | .box t x=>match vw.ev x with
   | some v=>if xT cx t&&v.flat then(match ksOf v.cells with
    | some ks=>match rowE kw.vk ks v.cells with
      | some r=>if decide (0<ks.length) then some (k {val:=.one (.ep vw.nid ks.length (.lit 0) 0),re:=.mk [⟨ks,t,.lq .ln r,true,.sl⟩]} kw) else none
      | none=>none
    | none=>none) else none
   | none=>none
 | .indexAddr t x y=>match vw.ev x,vw.ev y,av t cx.ty with
   | some (.one (.ep id esz (.lit z) off)),some (.one (.int _ e)),some i=>match i.arr with
     | some (n,et)=>match av et cx.ty with
       | some ie=>if((vw.tabw id).isSome||agm cx t)&&Nat.beq esz 1&&(Nat.beq off 0&&(fO z 0&&Nat.beq ie.size 1)) then some (decK (inR e n) (fun ok kw=>if ok then k {val:=.one (.ep id 1 e 0)} kw else .panic) kw) else none
       | none=>none
     | _=>none
   | _,_,_=>none
 | .load t x=>match vw.ev x,av t cx.ty with
   | some (.one (.ep id esz e off)),some i=>match vw.tabw id with
     | some r=>match r.ks with
       | none::ks=>if Nat.beq esz 1&&(Nat.beq off 0&&(!i.agg&&decide (0<ks.length))) then
        some (decK (inB e r.l) (fun ok kw=>if ok then decK (oA (selL r.l e) (selI r.l e) 0) (fun b kw=>if b then k {val:=.one (.ep vw.nid ks.length (.lit 0) 0),rr:=[id],re:=.peek ⟨ks,r.ty,.lq .ln (getF (selL r.l e) (selI r.l e) 1 ks),false,.sl⟩} kw else k {val:=.one .np,rr:=[id]} kw) kw else .stuck 270) kw) else none
       | _=>none
     | none=>none
   | _,_=>none
 | .store t x y=>match vw.ev x,vw.ev y,av t cx.ty with
   | some (.one (.ep id esz e off)),some v,some i=>match vw.tabw id with
     | some r=>match v,r.ks with
       | .one (.ep xid sz (.lit z) fo),none::ks=>match vw.sw xid with
         | some q=>if(Nat.beq esz 1&&(Nat.beq off 0&&(fO z 0&&(Nat.beq i.size 1&&Nat.beq sz q.ks.length))))&&(q.own&&bQ (q.ks.drop fo) ks) then
          some (decK (inB e r.l) (fun ok kw=>if ok then decK (inB (.lit 0) q.l) (fun ok kw=>if ok then k {val:=.one .undef,rr:=[xid,id],re:=.tset xid {q with own:=false} id {r with l:=.lput r.l e (.cb (.tt true) (getF q.l (.lit 0) fo ks))}} kw else .stuck 271) kw else .stuck 272) kw) else none
         | none=>none
       | _,_=>none
     | none=>match e,vw.sw id with
       | .lit z,some r=>match r.l with
         | .lq .ln row=>if(xT cx r.ty&&(fO z 0&&(Nat.beq esz r.ks.length&&r.own)))&&(v.flat&&(Nat.beq v.cells.length i.size&&(decide (off+i.size<=esz)&&rngs kw.vk v.cells kw.vk 0))) then
          (match xC off r.ks row v.cells with
          | some row'=>some (k {val:=.one .undef,rr:=[id],re:=.set id {r with l:=.lq .ln row'}} kw)
          | none=>none) else none
         | _=>none
       | _,_=>none
   | _,_,_=>none
 | .call c=>match c.callee with
   | .builtin .clear=>match evL vw.ev c.args.toList,c.argTypes.toList with
     | some [.one (.aw b off n sz (.lit (.ofNat l0)) (.lit (.ofNat l1)) (.lit (.ofNat l2)))],[t]=>match av t cx.ty with
       | some i=>match i.sle with
         | some et=>match av et cx.ty with
           | some ie=>if Nat.beq ie.size sz&&(decide (l0<l1)&&(decide (l0<l2)&&((List.replicate (l1-l0) ie.zero).flatten).all C.solid)) then
            some (k {val:=.tup [],wr:=dp b (off+l0*sz) ((List.replicate (l1-l0) ie.zero).flatten)} kw) else none
           | none=>none
         | none=>none
       | none=>none
     | _,_=>none
   | _=>none
 | _=>none
theorem aqr (hT:∀t i,(t,i)∈cx.ty->TIok P t i) {kw:Kw} {tr:Tr} (ht:opT cx vw o.op kw k=some tr) (h:tr.holds sp G U I) (hg:Good sp cx.sm U kw):Sound P sp U G I base cx vw o k kw:=by
 cases hop:o.op<;>rw[hop] at ht<;>simp only[opT] at ht
 case alloc t=>
  split at ht
  ·rename_i i hi
   split at ht
   ·split at ht
    ·rename_i ks hk
     split at ht
     ·rename_i r hr
      split at ht
      ·rename_i hp;cases ht;exact uc hT hop hi hr (thm3 hp) h hg
      ·cases ht
     ·cases ht
    ·cases ht
   ·split at ht
    ·split at ht
     ·rename_i kd _ _ _
      split at ht
      ·rename_i hp
       simp only[thm0,bl] at hp
       cases ht
       exact ud hT hop hi hp.1 hp.2 h hg
      ·cases ht
     ·cases ht
    ·split at ht
     ·rename_i t' ks st _
      split at ht
      ·rename_i hp
       simp only[thm0,bl] at hp
       cases ht
       exact ub hT hop hi ks st hp.2.1 hp.2.2 h hg
      ·cases ht
     ·cases ht
  ·cases ht
 case box t x=>
  split at ht
  ·rename_i v hv
   split at ht
   ·rename_i hf
    rw[thm0] at hf
    split at ht
    ·rename_i ks hk
     split at ht
     ·rename_i r hr
      split at ht
      ·rename_i hp;cases ht;exact aa1 hop hv hf.2 hr (thm3 hp) h hg
      ·cases ht
     ·cases ht
    ·cases ht
   ·cases ht
  ·cases ht
 case indexAddr t x y=>
  split at ht
  ·rename_i id esz z off k0 e i hx hy hi
   split at ht
   ·rename_i n et ha
    split at ht
    ·rename_i ie hie
     split at ht
     ·rename_i hp
      simp only[thm0] at hp
      obtain⟨⟨_,p1⟩,p2,p3,p4⟩:=hp
      have p1:=thm1 p1
      have p2:=thm1 p2
      have p3:=du p3
      subst p1 p2 p3
      cases ht
      exact tS hT hop hx hy hi ha hie (thm1 p4) h hg
     ·cases ht
    ·cases ht
   ·cases ht
  ·cases ht
 case load t x=>
  split at ht
  ·rename_i id esz e off i hx hi
   split at ht
   ·rename_i r hr
    split at ht
    ·rename_i ks hks
     split at ht
     ·rename_i hp
      simp only[thm0,bl,Bool.not_eq_true'] at hp
      obtain⟨p1,p2,p3,p4⟩:=hp
      have p1:=thm1 p1
      have p2:=thm1 p2
      subst p1 p2
      cases ht
      exact ww hT hop hx hi p3 hr hks p4 h hg
     ·cases ht
    ·cases ht
   ·cases ht
  ·cases ht
 case store t x y=>
  split at ht
  ·rename_i id esz e off v i hx hy hi
   split at ht
   ·rename_i r hr
    split at ht
    ·rename_i xid sz z fo ks hks
     split at ht
     ·rename_i q hq
      split at ht
      ·rename_i hp
       simp only[thm0] at hp
       obtain⟨⟨p1,p2,p3,p4,p5⟩,p6,p7⟩:=hp
       have p1:=thm1 p1
       have p2:=thm1 p2
       have p3:=du p3
       have p5:=thm1 p5
       subst p1 p2 p3 p5
       cases ht
       exact tR hT hop hx hy hi (thm1 p4) hr hks hq p6 (bM p7) h hg
      ·cases ht
     ·cases ht
    ·cases ht
   ·split at ht
    ·rename_i z r hr
     split at ht
     ·rename_i row hl
      split at ht
      ·rename_i hp
       simp only[thm0,bl] at hp
       obtain⟨⟨p1,p2,p3,p4⟩,p5,p6,p7,p8⟩:=hp
       have p2:=du p2
       have p3:=thm1 p3
       subst p2 p3
       split at ht
       ·rename_i row' hsp
        cases ht
        exact wx hT hop hx hy hi hr p4 p5 (thm1 p6) p7 hl p8 hsp h hg
       ·cases ht
      ·cases ht
     ·cases ht
    ·cases ht
  ·cases ht
 case call c=>
  split at ht
  ·rename_i hc
   split at ht
   ·rename_i b off n sz l0 l1 l2 t hl hty
    split at ht
    ·rename_i i hi
     split at ht
     ·rename_i et ha
      split at ht
      ·rename_i ie hie
       split at ht
       ·rename_i hp
        simp only[thm0,bl] at hp
        obtain⟨p1,p2,p3,p4⟩:=hp
        cases ht
        exact adr hT hop hc hl hty hi ha hie (thm1 p1) p2 (by show(Int.ofNat l2).toNat≠l0;simp;omega) p4 h hg
       ·cases ht
      ·cases ht
     ·cases ht
    ·cases ht
   ·cases ht
  ·cases ht
 all_goals cases ht
def opKT (cx:Cx) (vw:Vw) (op:Op) (kw:Kw) (k:Eff->Kw->Tr):Tr:=match opT cx vw op kw k with
 | some t=>t
 | none=>opKX cx vw op kw k
theorem aoa (hT:∀t i,(t,i)∈cx.ty->TIok P t i) (hS:∀s∈cx.sm,SmOk P sp s) (hkeys:∀s∈cx.sm,∀s'∈cx.sm,s.key=s'.key->s=s') {kw:Kw} (h:(opKT cx vw o.op kw k).holds sp G U I) (hg:Good sp cx.sm U kw):Sound P sp U G I base cx vw o k kw:=by
 unfold opKT at h
 split at h
 ·rename_i t ht;exact aqr hT ht h hg
 ·exact an9 hT hS hkeys h hg
end
end Go.Proofs.YtfkhblmeioiciaaGreatDoor
