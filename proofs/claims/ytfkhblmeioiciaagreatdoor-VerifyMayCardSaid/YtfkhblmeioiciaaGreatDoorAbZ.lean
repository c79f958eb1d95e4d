import Derived.Test.YtfkhblmeioiciaaGreatDoorAaZ
import Derived.Sort.Row
import Derived.Laws.CopyRow
import Derived.Laws.BytesString
set_option maxRecDepth 100000
set_option maxHeartbeats 8000000
set_option linter.defProp false
set_option linter.unusedVariables false
set_option linter.unusedSimpArgs false
namespace Go.Proofs.YtfkhblmeioiciaaGreatDoor
open Go.RowKit
section
variable {P:Program} {sp:Spec} {U:Env} {G:Env->E->Prop} {I:Nat->List Dt->Prop} {base:Nat} {cx:Cx} {vw:Vw} {o:Oper} {k:Eff->Kw->Tr}
theorem uv {e:E} {n:Nat} {kk:Nat->Kw->Tr}:∀(m:Nat) (kw:Kw),m<=n->(xA e n kk m kw).holds sp G U I->Good sp cx.sm U kw->∃i kw',i<n/\e.I U=(i:Int)/\(kk i kw').holds sp G U I/\Good sp cx.sm U kw'/\KwGe kw' kw
 | 0,kw,_,h,hg=>h.elim
 | m+1,kw,hm,h,hg=>by
   simp only[xA] at h
   obtain⟨kw1,h1,g1,_,l1⟩:=ba _ _ _ h hg
   rw[rh] at h1
   split at h1
   ·rename_i hb
    have hb':e.I U=((n-(m+1):Nat):Int):=by simpa[E.I] using hb
    exact⟨n-(m+1),kw1,by omega,hb',h1,g1,l1⟩
   ·obtain⟨i,kw2,h2,h3,h4,g2,l2⟩:=uv m kw1 (by omega) h1 g1
    exact⟨i,kw2,h2,h3,h4,g2,l2.trans l1⟩
theorem ky (hT:∀t i,(t,i)∈cx.ty->TIok P t i) {t:Nat} {x y:Operand} {kw:Kw} (hop:o.op=.indexAddr t x y) {c:C} {c':Nat->C} (hx:vw.ev x=some (.one c)) {k0:IntKind} {e:E} (hy:vw.ev y=some (.one (.int k0 e))) {i:TI} (hi:az t cx.ty=some i)
  {n et:Nat} (ha:i.arr=some (n,et)) {ie:TI} (hie:az et cx.ty=some ie) (hmv:∀m j v,c.den U j=some v->∃a,v=.pointer (some a)/\(c' m).den U j=some (.pointer (some (a.add (m*ie.size)))))
  (h:(xA e n (fun m kw=>k {val:=.one (c' m)} kw) n kw).holds sp G U I) (hg:Good sp cx.sm U kw):Sound P sp U G I base cx vw o k kw:=by
 obtain⟨m,kw',hm,he,h1,g1,l1⟩:=uv n kw (Nat.le_refl _) h hg
 have hu:=(hT _ _ (ao hi)).arr n et ha
 have hs:=(hT _ _ (ao hie)).size
 refine⟨_,kw',h1,g1,l1,OpOk.pure fun j a w _ hev _ _ _=> ?_⟩
 obtain⟨p,hp,hd⟩:=hmv m j _ (hev x (by simp[hop,Op.operands]) _ hx)
 have hq:=cP (hev y (by simp[hop,Op.operands]) _ hy)
 refine⟨_,hd,?_⟩
 have hlt:(0:Int)<=(m:Int)/\(m:Int)<(n:Int):=by omega
 simp[execOp,hop,hp,hq,he,Instr.indexAt,run_underlying hu,Instr.sureAddr,asIntOf,hlt,hs,Sem.run_bind]
 omega
theorem afO (hT:∀t i,(t,i)∈cx.ty->TIok P t i) {t:Nat} {x y:Operand} {kw:Kw} (hop:o.op=.index t x y) {cs:List C} (hx:vw.ev x=some (.agg cs)) {k0:IntKind} {e:E} (hy:vw.ev y=some (.one (.int k0 e))) {i:TI} (hi:az t cx.ty=some i)
  {n et:Nat} (ha:i.arr=some (n,et)) {ie:TI} (hie:az et cx.ty=some ie) (h:(xA e n (fun m kw=>match adq cx et cs (m*ie.size) with | some v=>k {val:=v} kw | none=>.stuck 30) n kw).holds sp G U I) (hg:Good sp cx.sm U kw):Sound P sp U G I base cx vw o k kw:=by
 obtain⟨m,kw',hm,he,h1,g1,l1⟩:=uv n kw (Nat.le_refl _) h hg
 have hu:=(hT _ _ (ao hi)).arr n et ha
 have hs:=(hT _ _ (ao hie)).size
 split at h1
 ·rename_i v hv
  refine⟨_,kw',h1,g1,l1,OpOk.pure fun j a w _ hev _ _ _=> ?_⟩
  have hd:=hev x (by simp[hop,Op.operands]) _ hx
  simp only[V.den,thm4] at hd
  obtain⟨vs,hvs,hp⟩:=hd
  have hq:=cP (hev y (by simp[hop,Op.operands]) _ hy)
  obtain⟨u,hu',hr⟩:=aio hT hv hvs w
  refine⟨u,hu',?_⟩
  have hlt:(0:Int)<=(m:Int)/\(m:Int)<(n:Int):=by omega
  simp[execOp,hop,<-hp,hq,he,Instr.index,run_underlying hu,asIntOf,hlt,hs,Sem.run_bind,hr]
  omega
 ·exact h1.elim
theorem aaf (U:Env) (e l:E):(inB e l).B U=(decide (0<=e.I U)&&decide (e.I U<((l.R U).length:Int))):=by
 simp only[inB,fz,df,ff,iG,E.I]
 rw[cq]
 rfl
theorem we (hT:∀t i,(t,i)∈cx.ty->TIok P t i) {t:Nat} {x y:Operand} {kw:Kw} (hop:o.op=.indexAddr t x y) {id:Nat} (hx:vw.ev x=some (.one (.sl id))) {k0:IntKind} {e:E} (hy:vw.ev y=some (.one (.int k0 e))) {i:TI} (hi:az t cx.ty=some i)
  {et:Nat} (ha:i.sle=some et) {ie:TI} (hie:az et cx.ty=some ie) {r:RowOb} (hr:vw.sw id=some r) (hks:r.ks.length=ie.size)
  (h:(decK (inB e r.l) (fun b kw=>if b then k {val:=.one (.ep id ie.size e 0),rr:=[id]} kw else .panic) kw).holds sp G U I) (hg:Good sp cx.sm U kw):Sound P sp U G I base cx vw o k kw:=by
 obtain⟨kw',h1,g1,_,l1⟩:=ba _ _ _ h hg
 rw[aaf] at h1
 split at h1
 ·rename_i hb
  simp only[thm0,aZ] at hb
  refine⟨_,kw',h1,g1,l1,OpOk.pure fun j a w _ hev _ hrr _=> ?_⟩
  obtain⟨s,hs,hok⟩:=hrr.sl id (by simp) r hr
  have hd:=hev x (by simp[hop,Op.operands]) _ hx
  simp only[V.den,C.den,hs,Option.map_some,bk] at hd
  have hq:=cP (hev y (by simp[hop,Op.operands]) _ hy)
  have hu:=(hT _ _ (ao hi)).sle et ha
  have hsz:=(hT _ _ (ao hie)).size
  obtain⟨sa,sn,sc,sz⟩:=s
  have hn:=hok.n
  simp only at hn
  have hrd:=hok.rd
  cases sa with
  | none=>have:=(hrd.2.2.2.1 rfl).1;simp only at this;omega
  | some p=>
    refine⟨.pointer (some (p.add ((e.I U).toNat*ie.size+0))),by simp[V.den,C.den,hs,SV.elem],?_⟩
    have hlt:(0:Int)<=e.I U/\e.I U<(sn:Int):=by omega
    simp[execOp,hop,<-hd,SV.v,hq,Instr.indexAt,run_underlying hu,asIntOf,hlt,hsz,Sem.run_bind]
 ·exact h1.elim
theorem fd {a:Addr} {w:World}:∀(vs:List Value) (i:Nat) (acc:Array Value),(∀m u,vs[m]? =some u->w.cell? (a.add (i+m))=some u)->(loadCellsFrom a i vs.length acc).run P w=.ok (acc++vs.toArray) w
 | [],i,acc,_=>by simp[loadCellsFrom]
 | v::vs,i,acc,h=>by
   have h0:=h 0 v rfl
   simp only[Nat.add_zero] at h0
   simp only[List.length_cons,loadCellsFrom,Sem.run_bind,load,Sem.run,h0,Result.andThen_ok]
   rw[fd vs (i+1) _ (fun m u hu=>by rw[Nat.add_assoc,Nat.add_comm 1 m];exact h (m+1) u (by simpa using hu))]
   simp
theorem kf {j:J}:∀{cs:List C} {vs:List Value},cs.length=vs.length->(∀(m:Nat) c,cs[m]? =some c->∃u,vs[m]? =some u/\c.den U j=some u)->denL U j cs=some vs
 | [],vs,hl,_=>by
   cases vs with
   | nil=>rfl
   | cons=>cases hl
 | c::cs,vs,hl,h=>by
   cases vs with
   | nil=>cases hl
   | cons v vs=>
     obtain⟨u,hu,hd⟩:=h 0 c rfl
     simp only[bT,bk] at hu
     subst hu
     have:=kf (cs:=cs) (vs:=vs) (by simpa using hl) (fun m c hm=>by simpa using h (m+1) c (by simpa using hm))
     simp[denL,hd,this]
theorem iB {ld:Nat->Nat->Option C} {b:Nat}:∀(n o:Nat) (cs:List C),iC ld b o n=some cs->cs.length=n/\∀m c,cs[m]? =some c->ld b (o+m)=some c
 | 0,o,cs,h=>by cases h;exact⟨rfl,fun m c hm=>by simp at hm⟩
 | n+1,o,cs,h=>by
   simp only[iC] at h
   cases hc:ld b o with
   | none=>rw[hc] at h;cases h
   | some c=>
     cases hl:iC ld b (o+1) n with
     | none=>rw[hc,hl] at h;cases h
     | some l=>
       rw[hc,hl] at h;cases h
       obtain⟨h1,h2⟩:=iB n (o+1) l hl
       refine⟨by simp[h1],fun m c' hm=> ?_⟩
       cases m with
       | zero=>simp at hm;subst hm;exact hc
       | succ m=>rw[show o+(m+1)=o+1+m by omega];exact h2 m c' (by simpa using hm)
theorem aje {j:J} {b off:Nat} {v:Value} (h:(V.one (.fp b off)).den U j=some v):∃kk,j.f b=some kk/\v=.pointer (some ⟨kk,off,none⟩):=by
 simp only[V.den,C.den,thm4] at h
 obtain⟨kk,hk,rfl⟩:=h
 exact⟨kk,hk,rfl⟩
theorem sq (hT:∀t i,(t,i)∈cx.ty->TIok P t i) {t:Nat} {x:Operand} {kw:Kw} (hop:o.op=.load t x) {b off:Nat} (hx:vw.ev x=some (.one (.fp b off))) {i:TI} (hi:az t cx.ty=some i) (hagg:i.agg=true) {cs:List C} (hcs:iC (fun b o=>(vw.fb b).bind (·[o]?)) b off i.size=some cs) (hsol:cs.all C.solid=true)
  (h:(k {val:=.agg cs} kw).holds sp G U I) (hg:Good sp cx.sm U kw):Sound P sp U G I base cx vw o k kw:=by
 refine⟨_,kw,h,hg,.refl _,OpOk.pure fun j a w _ hev _ _ hfb=> ?_⟩
 have ht:=hT _ _ (ao hi)
 obtain⟨kk,hk,he⟩:=aje (hev x (by simp[hop,Op.operands]) _ hx)
 obtain⟨hlen,hget⟩:=iB _ _ _ hcs
 by_cases h0:i.size=0
 ·have hnil:cs=[]:=List.eq_nil_of_length_eq_zero (by omega)
  subst hnil
  refine⟨.agg #[],rfl,?_⟩
  simp[execOp,hop,he,Instr.loadAt,Instr.sureAddr,Sem.run_bind,loadVar,ht.agg,hagg,ht.size,loadCells,h0,loadCellsFrom]
 have hcont:∃c0,vw.fb b=some c0:=by
  cases hb:vw.fb b with
  | some c0=>exact⟨c0,rfl⟩
  | none=>
    exfalso
    have h1:0<cs.length:=by omega
    have:=hget 0 cs[0] (thm6 h1)
    simp[hb] at this
 obtain⟨c0,hc0⟩:=hcont
 obtain⟨kk',vs,h1,_,h2,h3⟩:=hfb.2 b c0 hc0
 rw[hk] at h1;cases h1
 have hv:∀m c,cs[m]? =some c->∃u,vs[off+m]? =some u/\c.den U j=some u:=fun m c hm=>by
  have:=hget m c hm
  simp only[hc0,Option.bind_some] at this
  exact cH h2 (off+m) c this
 have hus:denL U j cs=some ((vs.drop off).take i.size):=by
  refine kf ?_ (fun m c hm=> ?_)
  ·rw[List.length_take,List.length_drop,hlen]
   obtain⟨u,hu,_⟩:=hv (cs.length-1) cs[cs.length-1] (thm6 (by omega))
   have:=(cf.1 hu).1
   omega
  ·obtain⟨u,hu,hd⟩:=hv m c hm
   refine⟨u,?_,hd⟩
   have hlt:=(cf.1 hm).1
   rw[List.getElem?_take,if_pos (by omega),List.getElem?_drop]
   exact hu
 have hl:=aM hus
 refine⟨_,by simp only[V.den,hus];rfl,?_⟩
 have h4:=fd (P:=P) (a:=⟨kk,off,none⟩) (w:=w) ((vs.drop off).take i.size) 0 #[] (fun m u hu=>by
  rw[be,bt]
  have hlt:m<i.size:=by
   have:=(cf.1 hu).1
   rw[List.length_take] at this;omega
  rw[List.getElem?_take,if_pos hlt,List.getElem?_drop] at hu
  refine h3 _ u hu ?_
  have hc:=thm6 (show m<cs.length by omega)
  have hg:=hget m _ hc
  simp only[hc0,Option.bind_some] at hg
  unfold gW
  rw[cW,hg]
  exact thm7.1 hsol _ (List.getElem_mem _))
 rw[hl,hlen] at h4
 simp[execOp,hop,he,Instr.loadAt,Instr.sureAddr,Sem.run_bind,loadVar,ht.agg,hagg,ht.size,loadCells,h4]
theorem sr (hT:∀t i,(t,i)∈cx.ty->TIok P t i) {t:Nat} {x:Operand} {kw:Kw} (hop:o.op=.load t x) {b off:Nat} (hx:vw.ev x=some (.one (.fp b off))) {i:TI} (hi:az t cx.ty=some i) (hagg:¬i.agg=true) {c:C} (hc:(vw.fb b).bind (·[off]?)=some c) (hsol:c.solid=true)
  (h:(k {val:=.one c} kw).holds sp G U I) (hg:Good sp cx.sm U kw):Sound P sp U G I base cx vw o k kw:=by
 refine⟨_,kw,h,hg,.refl _,OpOk.pure fun j a w _ hev _ _ hfb=> ?_⟩
 have ht:=hT _ _ (ao hi)
 obtain⟨kk,hk,he⟩:=aje (hev x (by simp[hop,Op.operands]) _ hx)
 rw[bS] at hc
 obtain⟨c0,hc0,hc⟩:=hc
 obtain⟨kk',vs,h1,_,h2,h3⟩:=hfb.2 b c0 hc0
 rw[hk] at h1;cases h1
 obtain⟨u,hu,hd⟩:=cH h2 off c hc
 have hagg':i.agg=false:=by simpa using hagg
 have h4:=h3 off u hu (by unfold gW;rw[cW,hc];exact hsol)
 exact⟨u,hd,by simp[execOp,hop,he,Instr.loadAt,Instr.sureAddr,Sem.run_bind,loadVar,ht.agg,hagg',load,Sem.run,h4]⟩
theorem yb {j:J} {id esz off:Nat} {e:E} {v:Value} {s:SV} (hs:j.s id=some s) (h:(V.one (.ep id esz e off)).den U j=some v):∃a,s.a=some a/\v=.pointer (some (a.add ((e.I U).toNat*esz+off))):=by
 simp only[V.den,C.den,hs,Option.bind_some,SV.elem,thm4] at h
 obtain⟨a,ha,rfl⟩:=h
 exact⟨a,ha,rfl⟩
theorem uq (U:Env) (j:J) (l e:E) (c:Nat) (k:CE):(rowC l e c k).den U j=some (iN k (gt (l.R U) (e.I U) c)):=by
 cases k<;>simp[rowC,C.den,iN,aiD,uA]
theorem xu {l e:E}:∀{ks:List CE} {c0 m:Nat} {c:C},(jl l e c0 ks)[m]? =some c->∃k,ks[m]? =some k/\c=rowC l e (c0+m) k
 | [],c0,m,c,h=>by simp[jl] at h
 | k::ks,c0,m,c,h=>by
   cases m with
   | zero=>simp[jl] at h;exact⟨k,rfl,h.symm⟩
   | succ m=>
     obtain⟨k',h1,h2⟩:=xu (ks:=ks) (c0:=c0+1) (m:=m) (by simpa[jl] using h)
     exact⟨k',by simpa using h1,by rw[h2];congr 1;omega⟩
theorem mW (l e:E):∀(ks:List CE) (c0:Nat),(jl l e c0 ks).length=ks.length
 | [],_=>rfl
 | k::ks,c0=>by simp[jl,mW l e ks]
theorem afM (hT:∀t i,(t,i)∈cx.ty->TIok P t i) {t:Nat} {x:Operand} {kw:Kw} (hop:o.op=.load t x) {id esz off:Nat} {e:E} (hx:vw.ev x=some (.one (.ep id esz e off))) {i:TI} (hi:az t cx.ty=some i) {r:RowOb} (hr:vw.sw id=some r) (hks:r.ks.length=esz) (hoff:off+i.size<=esz)
  (h:(decK (inB e r.l) (fun b kw=>if b then
      (if i.agg then k {val:=.agg (abT r.l e off ((r.ks.drop off).take i.size)),rr:=[id]} kw
      else match r.ks[off]? with
       | some ck=>k {val:=.one (rowC r.l e off ck),rr:=[id]} kw
       | none=>.stuck 53)
      else .stuck 54) kw).holds sp G U I) (hg:Good sp cx.sm U kw):Sound P sp U G I base cx vw o k kw:=by
 simp only[ah8] at h
 obtain⟨kw',h1,g1,_,l1⟩:=ba _ _ _ h hg
 rw[aaf] at h1
 have ht:=hT _ _ (ao hi)
 split at h1
 ·rename_i hb
  simp only[thm0,aZ] at hb
  have cells:∀{j:J} {w:World} {s:SV} {p:Addr},SlOk U base w s r->s.a=some p->∀c ck,r.ks[c]? =some ck->w.cell? (p.add ((e.I U).toNat*esz+c))=some (iN ck (gt (r.l.R U) (e.I U) c)):=by
   intro j w s p hok hp c ck hck
   have:=nI hck (i:=(e.I U).toNat) hok.rows.row (by omega)
   rw[hks] at this
   exact hok.rd.2.2.2.2 p hp _ _ this
  split at h1
  ·rename_i hagg
   refine⟨_,kw',h1,g1,l1,OpOk.pure fun j a w _ hev _ hrr _=> ?_⟩
   obtain⟨s,hs,hok⟩:=hrr.sl id (by simp) r hr
   obtain⟨p,hp,he⟩:=yb hs (hev x (by simp[hop,Op.operands]) _ hx)
   have hkl:((r.ks.drop off).take i.size).length=i.size:=by rw[List.length_take,List.length_drop];omega
   have hus:denL U j (jl r.l e off ((r.ks.drop off).take i.size))=some ((List.range i.size).map fun m=>iN ((r.ks[off+m]?).getD none) (gt (r.l.R U) (e.I U) (off+m))):=by
    refine kf (by rw[mW,hkl];simp) (fun m c hm=> ?_)
    obtain⟨ck,hck,rfl⟩:=xu hm
    have hm':m<i.size:=by
     have:=(cf.1 hck).1
     omega
    rw[List.getElem?_take,if_pos hm',List.getElem?_drop] at hck
    refine⟨_,?_,uq U j _ _ _ _⟩
    simp[hm',hck]
   refine⟨_,by simp only[V.den,hus];rfl,?_⟩
   have h4:=fd (P:=P) (a:=p.add ((e.I U).toNat*esz+off)) (w:=w) ((List.range i.size).map fun m=>iN ((r.ks[off+m]?).getD none) (gt (r.l.R U) (e.I U) (off+m))) 0 #[] (fun m u hu=>by
    rw[bt,ct,Nat.add_assoc]
    have hm':m<i.size:=by
     have:=(cf.1 hu).1
     simpa using this
    obtain⟨ck,hck⟩:∃ck,r.ks[off+m]? =some ck:=⟨_,thm6 (by omega)⟩
    have:=cells (j:=j) hok hp (off+m) ck hck
    simp[hm',hck] at hu
    rw[this,hu])
   simp only[List.length_map,List.length_range] at h4
   simp[execOp,hop,he,Instr.loadAt,Instr.sureAddr,Sem.run_bind,loadVar,ht.agg,hagg,ht.size,loadCells,h4]
  ·rename_i hagg
   split at h1
   ·rename_i ck hck
    refine⟨_,kw',h1,g1,l1,OpOk.pure fun j a w _ hev _ hrr _=> ?_⟩
    obtain⟨s,hs,hok⟩:=hrr.sl id (by simp) r hr
    obtain⟨p,hp,he⟩:=yb hs (hev x (by simp[hop,Op.operands]) _ hx)
    have h4:=cells (j:=j) hok hp off ck hck
    have hagg':i.agg=false:=by simpa using hagg
    exact⟨_,uq U j _ _ _ _,by simp[execOp,hop,he,Instr.loadAt,Instr.sureAddr,Sem.run_bind,loadVar,ht.agg,hagg',load,Sem.run,h4]⟩
   ·exact h1.elim
 ·exact h1.elim
theorem ab6 {w:World} {base ty esz:Nat} {s:SV} {xs:List Value} (h:w.ownsRow base ty esz s.v s.n xs) {p:Addr} (hp:s.a=some p):∃g,p=⟨g,0,none⟩/\s.v=.slice (some ⟨g,0,none⟩) s.n s.c:=by
 rcases h.2 with⟨hv,_⟩ | ⟨g,cap,cur,hv,_⟩
 ·simp only[SV.v,hp] at hv;cases hv
 ·simp only[SV.v,hp,Value.slice.injEq,bk] at hv
  exact⟨g,hv.1,by simp only[SV.v,hp,hv.1]⟩
theorem apJ {ks:List CE} {L:List (List Int)} {c:Nat} {k:CE} (hk:ks[c]? =some k) {x:Int} (hx:inCE k x=true) (h:RowsIn ks L) (i:Int):RowsIn ks (st L i c x):=by
 refine⟨fun r hr=> ?_,by rw[fH];exact h.len⟩
 rcases xM hr with hr | ⟨r0,hr0,rfl⟩
 ·exact h.row r hr
 ·exact pz (h.row r0 hr0) hk hx
theorem iy {ty g n cap:Nat} {e:E} {j:J} {vk:List VK} (hv:Vk U vk):∀(ks0:List CE) (cs:List C) (l l':E) (off i0:Nat) (vs:List Value) (w:World) (p:Addr),
  eB vk l e off ks0 cs=some l'->denL U j cs=some vs->∀ks:List CE,(∀m:Nat,ks0[m]? =ks[off+m]?)->RowsIn ks (l.R U)->(e.I U).toNat<(l.R U).length->w.ownsRow base ty ks.length (.slice (some ⟨g,0,none⟩) n cap) n (flat ks (l.R U))->(∀m,p.add (i0+m)=⟨g,(e.I U).toNat*ks.length+(off+m),none⟩)->
  ∃w',(storeCells p vs i0).run P w=.ok () w'/\w'.ownsRow base ty ks.length (.slice (some ⟨g,0,none⟩) n cap) n (flat ks (l'.R U))/\w.grownBy w' (some g)/\RowsIn ks (l'.R U)/\(l'.R U).length=(l.R U).length
 | ks0,[],l,l',off,i0,vs,w,p,hput,hd,ks,hsub,hrows,hi,hown,hp=>by
   have e1:l'=l:=by
    unfold eB at hput
    cases ks0 with
    | nil=>exact(Option.some.inj hput).symm
    | cons k ks0=>cases k<;>exact(Option.some.inj hput).symm
   subst e1
   cases hd
   exact⟨w,by simp[storeCells],hown,⟨rfl,rfl,rfl,Nat.le_refl _,fun _ _ _=>rfl⟩,hrows,rfl⟩
 | [],c::cs,l,l',off,i0,vs,w,p,hput,hd,ks,hsub,hrows,hi,hown,hp=>by simp[eB] at hput
 | k::ks0,c::cs,l,l',off,i0,vs,w,p,hput,hd,ks,hsub,hrows,hi,hown,hp=>by
   simp only[denL] at hd
   cases hc:c.den U j with
   | none=>rw[hc] at hd;cases hd
   | some v=>
     cases hl:denL U j cs with
     | none=>rw[hc,hl] at hd;cases hd
     | some us=>
       rw[hc,hl] at hd;cases hd
       have hk:ks[off]? =some k:=by have:=hsub 0;simpa using this.symm
       have hn:(flat ks (l.R U)).length=(l.R U).length*ks.length:=cr hrows.row
       have hcl:off<ks.length:=(cf.1 hk).1
       have step:∀(x:Int) (l1:E),v=iN k x->inCE k x=true->l1.R U=st (l.R U) (e.I U) off x->eB vk l1 e (off+1) ks0 cs=some l'->
        ∃w',(storeCells p (v::us) i0).run P w=.ok () w'/\w'.ownsRow base ty ks.length (.slice (some ⟨g,0,none⟩) n cap) n (flat ks (l'.R U))/\w.grownBy w' (some g)/\RowsIn ks (l'.R U)/\(l'.R U).length=(l.R U).length:=by
        intro x l1 hvx hx hl1 hput'
        have hfs:(flat ks (l.R U)).set ((e.I U).toNat*ks.length+off) (iN k x)=flat ks (l1.R U):=by rw[hl1];exact acy hk x hrows.row hi
        have hlt:(e.I U).toNat*ks.length+off<n*ks.length:=by
         have h1:=hown.1
         rw[hn] at h1
         have h2:((e.I U).toNat+1)*ks.length<=(l.R U).length*ks.length:=Nat.mul_le_mul_right _ hi
         rw[Nat.succ_mul] at h2
         omega
        have hcell:∃u,w.cell? ⟨g,(e.I U).toNat*ks.length+off,none⟩=some u:=by
         have h1:=hown.cellAt _ hlt
         have h2:(e.I U).toNat*ks.length+off<(flat ks (l.R U)).length:=by rw[hown.1];exact hlt
         exact⟨_,by rw[h1,thm6 h2]⟩
        obtain⟨u,hu⟩:=hcell
        have hfr:=hown.frozenAt ((e.I U).toNat*ks.length+off)
        obtain⟨h3,h4⟩:=hown.stored ((e.I U).toNat*ks.length+off) v
        rw[hvx,hfs] at h3
        have hp0:=hp 0
        simp only[Nat.add_zero] at hp0
        have hone:v.oneCell'=true:=by rw[hvx];cases k<;>rfl
        obtain⟨w',h5,h6,h7,h8,h9⟩:=iy hv ks0 cs l1 l' (off+1) (i0+1) us (w.setCell ⟨g,(e.I U).toNat*ks.length+off,none⟩ v) p hput' hl ks (fun m=>by have:=hsub (m+1);simpa[Nat.add_assoc,Nat.add_comm 1 m] using this)
         (by rw[hl1];exact apJ hk hx hrows _) (by rw[hl1,fH];exact hi) (by rw[hvx];exact h3) (fun m=>by rw[Nat.add_assoc,Nat.add_comm 1 m,hp (m+1)];congr 1;omega)
        refine⟨w',?_,h6,h4.trans h7,h8,by rw[h9,hl1,fH]⟩
        simp only[storeCells,hp0,Sem.run_bind,run_store P w _ v _ hone,hu,hfr,Result.andThen_ok,Bool.false_eq_true,if_false]
        exact h5
       cases k with
       | none=>
         cases c<;>simp only[eB] at hput<;>first | cases hput | skip
         rename_i x
         have hvx:v=.bool (x.B U):=(Option.some.inj hc).symm
         exact step (b2i (x.B U)) _ (by rw[hvx];simp only[iN];cases x.B U<;>rfl) (ajQ _) rfl hput
       | some kd=>
         cases c<;>simp only[eB] at hput<;>first | cases hput | skip
         rename_i k' x
         split at hput
         ·rename_i hkk
          simp only[thm0] at hkk
          have hvx:v=.int k' (x.I U):=(Option.some.inj hc).symm
          exact step (x.I U) _ (by rw[hvx,aA hkk.1];rfl) (E.rng_ok hv x hkk.2) rfl hput
         ·cases hput
theorem ac6 (hT:∀t i,(t,i)∈cx.ty->TIok P t i) {t:Nat} {x y:Operand} {kw:Kw} (hop:o.op=.store t x y) {id esz off:Nat} {e:E} (hx:vw.ev x=some (.one (.ep id esz e off))) {v:V} (hy:vw.ev y=some v) {i:TI} (hi:az t cx.ty=some i)
  {r:RowOb} (hr:vw.sw id=some r) (hrown:r.own=true) (hks:r.ks.length=esz) (hf:v.flat=true) (hn:v.cells.length=i.size) (hoff:off+i.size<=esz)
  (h:(decK (inB e r.l) (fun b kw=>if b then
      (match eB kw.vk r.l e off (r.ks.drop off) v.cells with
       | some l=>k {val:=.one .undef,rr:=[id],re:=.set id {r with l:=l}} kw
       | none=>.stuck 57)
      else .stuck 58) kw).holds sp G U I) (hg:Good sp cx.sm U kw):Sound P sp U G I base cx vw o k kw:=by
 obtain⟨kw',h1,g1,_,l1⟩:=ba _ _ _ h hg
 rw[aaf] at h1
 have ht:=hT _ _ (ao hi)
 split at h1
 ·rename_i hb
  simp only[thm0,aZ] at hb
  split at h1
  ·rename_i l hl
   refine⟨_,kw',h1,g1,l1,fun j a w _ hev hrd hwr hrr hfb K Q hK=> ?_⟩
   obtain⟨s,hs,hok⟩:=hrr.sl id (by simp) r hr
   obtain⟨p,hp,he⟩:=yb hs (hev x (by simp[hop,Op.operands]) _ hx)
   have hd:=V.cells_ok (hev y (by simp[hop,Op.operands]) v hy) hf
   have hown:=hok.own hrown
   obtain⟨g,rfl,hsv⟩:=ab6 hown hp
   rw[hsv] at hown
   obtain⟨w',h2,h3,h4,h5,h6⟩:=iy (P:=P) g1.vk (r.ks.drop off) v.cells r.l l off 0 _ w ((⟨g,0,none⟩:Addr).add ((e.I U).toNat*esz+off)) hl hd r.ks (fun m=>by rw[List.getElem?_drop]) hok.rows (by omega) hown
    (fun m=>by rw[ct,be,hks];congr 1;omega)
   have hsz:(a.eval y).cells.size=i.size:=by
    have:=aM hd
    rw[Array.length_toList,hn] at this
    exact this
   refine vd (w':=w') ?_ (hK _ j w' rfl ⟨rfl,s,hs,?_,RowOk.mk_own (r:={r with l:=l}) (Vw.sw_some hr).2 (by rw[hok.n];exact h6.symm) h5 hok.pos (by rw[hsv];exact h3),fun e=>by rw[show r.kd=.sl from(Vw.sw_some hr).2] at e;cases e⟩)
   ·simp[execOp,hop,he,Instr.storeAt,Instr.sureAddr,Sem.run_bind,storeVar,ht.size,hsz,h2]
   ·rw[hsv];exact h4
  ·exact h1.elim
 ·exact h1.elim
end
section
variable {P:Program} {sp:Spec} {U:Env} {G:Env->E->Prop} {I:Nat->List Dt->Prop} {base:Nat} {cx:Cx} {vw:Vw} {o:Oper} {k:Eff->Kw->Tr}
def sE:List Value->Nat->List Value->List Value
 | cs,_,[]=>cs
 | cs,off,v::r=>sE (cs.set off v) (off+1) r
theorem wo {j:J}:∀{vs:List C} {us:List Value} {cs:List C} {ws:List Value} {off:Nat},denL U j vs=some us->denL U j cs=some ws->denL U j (jp cs off vs)=some (sE ws off us)
 | [],us,cs,ws,off,h,h'=>by cases h;exact h'
 | v::vs,us,cs,ws,off,h,h'=>by
   simp only[denL] at h
   cases hc:v.den U j with
   | none=>rw[hc] at h;cases h
   | some u=>
     cases hl:denL U j vs with
     | none=>rw[hc,hl] at h;cases h
     | some l=>
       rw[hc,hl] at h;cases h
       exact wo (vs:=vs) (us:=l) hl (uN h' off v u hc)
theorem xY (off:Nat):∀(l:List Value) (m:Nat) (cells:Array Value),((l.zipIdx m).foldl (fun cs (p:Value×Nat)=>cs.setIfInBounds (off+p.2) p.1) cells).toList=sE cells.toList (off+m) l
 | [],m,cells=>rfl
 | v::l,m,cells=>by
   simp only[List.zipIdx_cons,List.foldl_cons]
   rw[xY off l (m+1)]
   simp[sE,Nat.add_assoc]
theorem uK {j:J} {pl:Nat->Option (Nat×Nat)}:∀(parts:List (Nat×V)) (cs cs':List C) (us:List (Nat×Value)) (cells:Array Value),aam pl cs parts=some cs'->denL U j cs=some cells.toList->(parts.map (·.1)=us.map (·.1))->
  (∀(i:Nat) p u,parts[i]? =some p->us[i]? =some u->p.2.den U j=some u.2)->∃cells',Instr.fill pl cells us=some cells'/\denL U j cs'=some cells'.toList
 | [],cs,cs',us,cells,h,hd,hm,hu=>by
   cases us with
   | nil=>cases h;exact⟨cells,rfl,hd⟩
   | cons _ _=>simp at hm
 | (i,v)::parts,cs,cs',us,cells,h,hd,hm,hu=>by
   cases us with
   | nil=>simp at hm
   | cons u us=>
     obtain⟨i',u⟩:=u
     simp only[List.map_cons,thm5] at hm
     obtain⟨rfl,hm⟩:=hm
     simp only[aam] at h
     split at h
     ·rename_i off size hp
      split at h
      ·rename_i hc
       simp only[thm0,aZ] at hc
       obtain⟨h1,h2,h3⟩:=hc
       have hv:=hu 0 _ _ rfl rfl
       have hcells:=V.cells_ok hv h1
       have hl1:=aM hcells
       have hl2:=aM hd
       rw[thm1 h2] at hl1
       simp only[Array.length_toList] at hl1 hl2
       have hrow:denL U j (jp cs off v.cells)=some ((u.cells.zipIdx.foldl (fun cs (p:Value×Nat)=>cs.setIfInBounds (off+p.2) p.1) cells)).toList:=by
        rw[<-Array.foldl_toList,Array.toList_zipIdx,xY]
        exact wo hcells hd
       obtain⟨cells',h5,h6⟩:=uK parts _ cs' us _ h hrow hm (fun i p w hp' hw=>hu (i+1) p w (by simpa using hp') (by simpa using hw))
       refine⟨cells',?_,h6⟩
       unfold Instr.fill
       have hc1:¬(u.cells.size≠size||decide (off+u.cells.size>cells.size))=true:=by simp;omega
       simp only[hp]
       rw[if_neg hc1]
       exact h5
      ·cases h
     ·cases h
theorem ajk {ev:Operand->Option V} {j:J} {a:Act}:∀{l:List (Nat×Operand)} {vs:List (Nat×V)},evP ev l=some vs->(∀x∈l.map (·.2),∀v,ev x=some v->v.den U j=some (a.eval x))->
  vs.map (·.1)=(l.map fun p=>(p.1,a.eval p.2)).map (·.1)/\∀(i:Nat) p u,vs[i]? =some p->(l.map fun p=>(p.1,a.eval p.2))[i]? =some u->p.2.den U j=some u.2
 | [],vs,h,hev=>by cases h;exact⟨rfl,fun i p u hp=>by simp at hp⟩
 | (n,x)::l,vs,h,hev=>by
   simp only[evP] at h
   cases hc:ev x with
   | none=>rw[hc] at h;cases h
   | some v=>
     cases hl:evP ev l with
     | none=>rw[hc,hl] at h;cases h
     | some us=>
       rw[hc,hl] at h;cases h
       obtain⟨h1,h2⟩:=ajk (a:=a) (j:=j) hl (fun y hy=>hev y (cm _ hy))
       refine⟨by simp[h1],fun i p u hp hu=> ?_⟩
       cases i with
       | zero=>
         simp at hp hu
         subst hp hu
         exact hev x bD v hc
       | succ i=>exact h2 i p u (by simpa using hp) (by simpa using hu)
theorem aci (z:Array Value) (n:Nat):(madeCells z (n*z.size)).toList=(List.replicate n z.toList).flatten:=by
 have hf:(madeCells z (n*z.size)).toList=(List.range (n*z.size)).map (fun i=>z[i % z.size]!):=by simp[madeCells]
 rw[hf]
 clear hf
 induction n with
 | zero=>simp
 | succ n ih=>
   rw[Nat.succ_mul,List.range_add,List.map_append,ih,List.replicate_succ',List.flatten_concat]
   congr 1
   apply List.ext_getElem?
   intro i
   by_cases hi:i<z.size
   ·have:(n*z.size+i) % z.size=i:=by rw[Nat.add_comm,Nat.add_mul_mod_self_right,Nat.mod_eq_of_lt hi]
    simp[hi,this]
   ·simp[hi]
theorem uo {j:J} {vk:List VK} (hv:Vk U vk):∀{ks:List CE} {cs:List C} {r:E} {vs:List Value},cs.all (C.rng vk)=true->adn ks cs=some r->denL U j cs=some vs->vs=rowV ks (r.L U)/\aG ks (r.L U)=true
 | [],[],r,vs,_,h,hd=>by cases h;cases hd;exact⟨rfl,rfl⟩
 | some k::ks,.int k' x::cs,r,vs,hr,h,hd=>by
   simp only[adn] at h
   simp only[List.all_cons,thm0] at hr
   split at h
   ·rename_i hk
    rw[thm4] at h
    obtain⟨t,ht,rfl⟩:=h
    simp only[denL,C.den] at hd
    cases hl:denL U j cs with
    | none=>rw[hl] at hd;cases hd
    | some us=>
      rw[hl] at hd;cases hd
      obtain⟨h1,h2⟩:=uo hv hr.2 ht hl
      refine⟨by simp only[E.L,rowV,iN];rw[h1,aA hk],?_⟩
      simp only[E.L,aG,inCE,thm0]
      exact⟨E.rng_ok hv x (by have h9:x.rng vk k'=true:=hr.1;rw[aA hk] at h9;exact h9),h2⟩
   ·cases h
 | none::ks,.bool x::cs,r,vs,hr,h,hd=>by
   simp only[List.all_cons,thm0] at hr
   simp only[adn,thm4] at h
   obtain⟨t,ht,rfl⟩:=h
   simp only[denL,C.den] at hd
   cases hl:denL U j cs with
   | none=>rw[hl] at hd;cases hd
   | some us=>
     rw[hl] at hd;cases hd
     obtain⟨h1,h2⟩:=uo hv hr.2 ht hl
     refine⟨by simp only[E.L,rowV,iN];rw[h1];congr 2;cases x.B U<;>rfl,?_⟩
     simp only[E.L,aG,thm0]
     exact⟨ajQ _,h2⟩
theorem pB {j:J} {vk:List VK} (hv:Vk U vk) {ks:List CE} {cs:List C} {r:E} {vs:List Value} (h:rowE vk ks cs=some r) (hd:denL U j cs=some vs):vs=rowV ks (r.L U)/\aG ks (r.L U)=true:=by
 unfold rowE at h
 cases hr:rngs vk cs vk 0 with
 | false=>rw[hr] at h;cases h
 | true=>rw[hr] at h;exact uo hv (rngs_ok cs vk 0 rfl hr) h hd
theorem abP {j:J} {vk:List VK} (hv:Vk U vk) {ks:List CE}:∀(n:Nat) {cs:List C} {l:E} {vs:List Value},adl vk ks n cs=some l->denL U j cs=some vs->vs=flat ks (l.R U)/\(l.R U).length=n/\∀r∈l.R U,aG ks r=true
 | 0,[],l,vs,h,hd=>by cases h;cases hd;exact⟨rfl,rfl,fun r hr=>by cases hr⟩
 | 0,_::_,l,vs,h,hd=>by simp[adl] at h
 | n+1,cs,l,vs,h,hd=>by
   simp only[adl] at h
   split at h
   ·rename_i r l' hr hl
    cases h
    obtain⟨h1,h2⟩:=pB hv hr (lJ hd _)
    obtain⟨h3,h4,h5⟩:=abP hv n hl (iL hd _)
    rw[ajv,dh,<-h1,<-h3]
    refine⟨by rw[List.take_append_drop],by simp[h4],fun x hx=> ?_⟩
    rcases List.mem_cons.1 hx with rfl | hx
    ·exact h2
    ·exact h5 x hx
   ·cases h
theorem aab {ks:List CE}:kdOf ks≠.tab:=by
 rcases bM ks with⟨_,h⟩ | ⟨_,h⟩<;>rw[h]<;>simp
theorem Ext.of_grown {w w':World} (h:w.grownBy w' none):Ext w w':=Below.grown (Ext.refl w) h (Nat.le_refl _) (fun k hk=>by cases hk)
theorem rb {U:Env} {base nid:Nat} {w w':World} {j:J} {u:SV} {r:RowOb} {v:V} (hx:Ext w w') (hr:RowOk U w.heap.size w' u r) (ho:r.own=true) {eff:Eff} (he:eff={val:=v,rd:=eff.rd,rr:=eff.rr,re:=.mk [r]}) (hz:u.z=[]:=by first | rfl | assumption) (ht:r.kd=.tab->∀jj,TbAt U jj w' u r:=by first | (intro h;cases h;done) | (intro h;exact absurd h aab)):Does U base nid eff j w (j.putL nid [u]) w':=by
 rw[he]
 refine⟨hx,[u],rfl,fun i u' r' h1 h2=> ?_,fun i i' u1 u2 k h1 h2 _ _=> ?_,fun u' hu'=>NewZ.nil (by rw[du.1 hu'];exact hz),by simp[hz,J.addzs]⟩
 ·cases i with
  | zero=>simp at h1 h2;subst h1 h2;exact⟨hr,ho,ht⟩
  | succ i=>simp at h1
 ·cases i with
  | zero=>
    cases i' with
    | zero=>rfl
    | succ i'=>simp at h2
  | succ i=>simp at h1
theorem anw {U:Env} {j:J} {nid:Nat} {u:SV}:(V.one (.sl nid)).den U (j.putL nid [u])=some u.v:=by
 simp[V.den,C.den,J.putL]
theorem apQ {U:Env} {j:J} {nid:Nat} {u:SV}:(V.one (.sl nid)).den U (j.putS nid u)=some u.v:=by
 simp[V.den,C.den,J.putS]
theorem qt (hT:∀t i,(t,i)∈cx.ty->TIok P t i) {t n:Nat} {ps:Array (Nat×Operand)} {kw:Kw} (hop:o.op=.buildSlice t n ps) {parts:List (Nat×V)} (hps:evP vw.ev ps.toList=some parts) {i:TI} (hi:az t cx.ty=some i) {et:Nat} (ha:i.sle=some et) {ie:TI} (hie:az et cx.ty=some ie)
  {ks:List CE} {cs:List C} (hfill:aam (fun m=>some (m*ie.size,ie.size)) ((List.replicate n ie.zero).flatten) parts=some cs) {l:E} (hl:adl kw.vk ks n cs=some l) (hq:n*ie.size<=16777216/\0<ie.size/\ks.length=ie.size)
  (h:(k {val:=.one (.sl vw.nid),re:=.mk [⟨ks,et,l,true,.sl⟩]} kw).holds sp G U I) (hg:Good sp cx.sm U kw):Sound P sp U G I base cx vw o k kw:=by
 refine⟨_,kw,h,hg,.refl _,fun j a w hb hev hrd hwr hrr hfb K Q hK=> ?_⟩
 obtain⟨h1,h2⟩:=ajk (a:=a) (j:=j) hps (fun x hx=>hev x (by
  simp only[hop,Op.operands]
  simpa using hx))
 have h3:(ps.map fun p=>(p.1,a.eval p.2)).toList=ps.toList.map fun p=>(p.1,a.eval p.2):=Array.toList_map ..
 have hx:execOp a.eval o=(do let v <-Instr.buildSlice t n (ps.map fun p=>(p.1,a.eval p.2));pure (.value v)):=by simp only[execOp,hop]
 have hu:=(hT _ _ (ao hi)).sle et ha
 have hte:=hT _ _ (ao hie)
 have hsz:=hte.size
 obtain⟨inf,z,hinf,hisz,_,hz,hzl,hzd⟩:=hte.info
 have hzs:z.cells.size=ie.size:=by simpa using hzl
 have zer:denL U j ((List.replicate n ie.zero).flatten)=some (madeCells z.cells (n*ie.size)).toList:=by
  rw[<-hzs,aci]
  have:∀n,denL U j ((List.replicate n ie.zero).flatten)=some ((List.replicate n z.cells.toList).flatten):=by
   intro n
   induction n with
   | zero=>rfl
   | succ n ih=>
     simp only[List.replicate_succ,List.flatten_cons]
     exact gF (hzd U j) ih
  exact this n
 obtain⟨cells,h4,h5⟩:=uK (j:=j) parts _ cs _ (madeCells z.cells (n*ie.size)) hfill zer h1 h2
 obtain⟨h6,h7,h8⟩:=abP hg.vk n hl h5
 have hmax:n<=maxLen:=by
  have:n*1<=n*ie.size:=Nat.mul_le_mul_left n hq.2.1
  simp only[maxLen];omega
 have hcs:cells.size=n*ks.length:=by
  have:=congrArg List.length h6
  rw[cr h8,h7] at this
  simpa using this
 have own:=World.ownsRow_lit (base:=w.heap.size) (e:=et) (size:=ks.length) w cells n (Nat.le_refl _) hmax hcs
 rw[h6] at own
 refine ek (w':=w.alloc (.cells cells et)) (v:=(⟨some ⟨w.heap.size,0,none⟩,n,n,[]⟩:SV).v) ?_ (hK _ (j.putL vw.nid [⟨some ⟨w.heap.size,0,none⟩,n,n,[]⟩]) _ anw (rb (Ext.of_grown (World.grownBy_alloc w _ none)) (RowOk.mk_own rfl h7.symm ⟨h8,by rw[h7];exact hmax⟩ (by simp only;omega) own) rfl rfl))
 rw[hx]
 have hbig:¬(16777216<n*ie.size):=by omega
 by_cases hn0:n*ie.size=0
 ·have hn:n=0:=by
   rcases Nat.mul_eq_zero.1 hn0 with h | h
   ·exact h
   ·omega
  subst hn
  have h4':Instr.fill (fun m=>some (m*ie.size,ie.size)) #[] (ps.toList.map fun p=>(p.1,a.eval p.2))=some cells:=by
   rw[<-h4];congr 1
   simp[madeCells]
  simp[Instr.buildSlice,Sem.run_bind,run_underlying hu,hsz,h3,Array.range_zero',h4',newRow,SV.v]
 ·simp only[madeCells] at h4
  simp[Instr.buildSlice,Sem.run_bind,run_underlying hu,hsz,h3,hbig,hn0,zeroValue,typeInfo,hinf,hz,h4,newRow,SV.v]
end
section
variable {P:Program} {sp:Spec} {U:Env} {G:Env->E->Prop} {I:Nat->List Dt->Prop} {base:Nat} {cx:Cx} {vw:Vw} {o:Oper} {k:Eff->Kw->Tr}
theorem akI {j:J} {id:Nat} {s:SV} {v:Value} (hs:j.s id=some s) (h:(V.one (.sl id)).den U j=some v):v=s.v:=by
 simp only[V.den,C.den,hs,Option.map_some,bk] at h
 exact h.symm
theorem an9 {j:J} {v:Value} (h:(V.one .nsl).den U j=some v):v=.slice none 0 0:=(Option.some.inj h).symm
theorem SlOk.shut {w:World} {s:SV} {r:RowOb} (h:SlOk U base w s r):SlOk U base w s {r with own:=false}:=⟨h.n,h.rows,h.pos,fun k hk=>h.lt k (bv hk),fun ho=>(by cases ho),h.rd⟩
theorem ar9 {kw:Kw} {l:E} (hl:(l.R U).length<=maxLen):(lenE kw.vk l).I U=((l.R U).length:Int):=by
 have h:=iG U l
 unfold lenE
 split
 ·rename_i z hz;rw[hz] at h;exact h
 ·rename_i e hne
  split
  ·exact h
  ·show IntKind.i64.wrap _=_
   rw[h]
   refine aei ?_
   rw[bz]
   simp only[maxLen] at hl
   simp only[IntKind.min,IntKind.max,IntKind.signed,IntKind.bits]
   simp
   omega
theorem apN (hT:∀t i,(t,i)∈cx.ty->TIok P t i) {c:Call} {kw:Kw} (hop:o.op=.call c) (hc:c.callee=.builtin .len) {id t:Nat} (hl:evL vw.ev c.args.toList=some [.one (.sl id)]) (hty:c.argTypes.toList=[t]) {i:TI} (hi:az t cx.ty=some i) (hsl:i.sle.isSome=true) {r:RowOb} (hr:vw.sw id=some r)
  (h:(k {val:=.one (.int .i64 (lenE kw.vk r.l)),rr:=[id]} kw).holds sp G U I) (hg:Good sp cx.sm U kw):Sound P sp U G I base cx vw o k kw:=by
 refine⟨_,kw,h,hg,.refl _,OpOk.pure fun j a w _ hev _ hrr _=> ?_⟩
 obtain⟨s,hs,hok⟩:=hrr.sl id (by simp) r hr
 obtain⟨h1,h2⟩:=iK (j:=j) (a:=a) hl (fun x hx=>hev x (by simp[hop,Op.operands,Call.operands];exact .inr (by simpa using hx)))
 have h3:c.args.map a.eval = #[s.v]:=by
  have:c.args.toList.map a.eval=[s.v]:=by
   match hm:c.args.toList.map a.eval,h2 with
   | [u],_=>rw[hm] at h1;rw[akI hs (h1 0 _ u rfl rfl)]
  rw[<-Array.toArray_toList (xs:=c.args.map a.eval),Array.toList_map,this]
 obtain⟨et,het⟩:=Option.isSome_iff_exists.1 hsl
 have hu:=(hT _ _ (ao hi)).sle et het
 have hat:c.argTypes = #[t]:=by rw[<-Array.toArray_toList (xs:=c.argTypes),hty]
 have hle:(r.l.R U).length<=maxLen:=hok.rows.len
 refine⟨.int .i64 (s.n:Int),by rw[hok.n];simp[V.den,C.den,ar9 hle],?_⟩
 simp[execOp,hop,resolve,hc,h3,hat,Sem.run_bind,invoke,builtin,Builtin.len_,run_underlying hu,SV.v,goInt]
theorem akF (hT:∀t i,(t,i)∈cx.ty->TIok P t i) {c:Call} {kw:Kw} (hop:o.op=.call c) (hc:c.callee=.builtin .len) {t:Nat} (hl:evL vw.ev c.args.toList=some [.one .nsl]) (hty:c.argTypes.toList=[t]) {i:TI} (hi:az t cx.ty=some i) (hsl:i.sle.isSome=true)
  (h:(k {val:=.one (.int .i64 (.lit 0))} kw).holds sp G U I) (hg:Good sp cx.sm U kw):Sound P sp U G I base cx vw o k kw:=by
 refine⟨_,kw,h,hg,.refl _,OpOk.pure fun j a w _ hev _ hrr _=> ?_⟩
 obtain⟨h1,h2⟩:=iK (j:=j) (a:=a) hl (fun x hx=>hev x (by simp[hop,Op.operands,Call.operands];exact .inr (by simpa using hx)))
 have h3:c.args.map a.eval = #[.slice none 0 0]:=by
  have:c.args.toList.map a.eval=[.slice none 0 0]:=by
   match hm:c.args.toList.map a.eval,h2 with
   | [u],_=>rw[hm] at h1;rw[an9 (h1 0 _ u rfl rfl)]
  rw[<-Array.toArray_toList (xs:=c.args.map a.eval),Array.toList_map,this]
 obtain⟨et,het⟩:=Option.isSome_iff_exists.1 hsl
 have hu:=(hT _ _ (ao hi)).sle et het
 have hat:c.argTypes = #[t]:=by rw[<-Array.toArray_toList (xs:=c.argTypes),hty]
 refine⟨.int .i64 0,rfl,?_⟩
 simp[execOp,hop,resolve,hc,h3,hat,Sem.run_bind,invoke,builtin,Builtin.len_,run_underlying hu,goInt]
theorem an3 {w:World} {base ty esz n:Nat} {v:Value} {xs:List Value} (h:w.ownsRow base ty esz v n xs):∃s:SV,v=s.v/\s.n=n/\s.z=[]:=by
 rcases h.2 with⟨rfl,rfl⟩ | ⟨g,cap,cur,rfl,_⟩
 ·exact⟨⟨none,0,0,[]⟩,rfl,rfl,rfl⟩
 ·exact⟨⟨some ⟨g,0,none⟩,n,cap,[]⟩,rfl,rfl,rfl⟩
theorem iz {w:World} {base t ty e:Nat} {inf:TypeInfo} {z:Value} (ht:P.underlying t=some (.slice e)) (hi:P.info? e=some inf) (hz:inf.zero=some z) (hzs:z.cells.size=inf.size) (hsz:0<inf.size) {v:Value} {n:Nat} {xs:List Value} (hown:w.ownsRow base e inf.size v n xs)
  {x:SV} {news:List Value} (hrd:RdRow w inf.size x news) (h1:∀u∈news,u.oneCell'=true) (h63:n+x.n<=maxLen) (hbytes:(n+x.n)*inf.bytes<=140737488355328) (hbase:base<=w.heap.size):
  ∃s' w',(Builtin.append_ #[t,t] ty #[v,x.v]).run P w=.ok (SV.v s') w'/\s'.n=n+x.n/\w'.ownsRow base e inf.size s'.v (n+x.n) (xs++news)/\w.grownBy w' v.ownBlock/\(s'.v.ownBlock=v.ownBlock\/s'.v.ownBlock=some w.heap.size)/\s'.z=[]:=by
 obtain⟨xa,xn,xc,xz⟩:=x
 cases xa with
 | none=>
   obtain⟨h2,h3⟩:=hrd.2.2.2.1 rfl
   simp only at h2 h3
   subst h2 h3
   have hnil:news=[]:=by
    have:=hrd.1
    simp only[Nat.zero_mul] at this
    exact List.eq_nil_of_length_eq_zero this
   subst hnil
   obtain⟨s,rfl,hn,hsz⟩:=an3 hown
   exact⟨s,w,run_append_owned_none w base t ty e inf inf.size ht hi _ n xs hown,hn,by simpa using hown,⟨rfl,rfl,rfl,Nat.le_refl _,fun _ _ _=>rfl⟩,.inl rfl,hsz⟩
 | some a=>
   obtain⟨v',w',hr,h2,h3,_,h5⟩:=run_append_own_at (P:=P) w base t ty e inf z inf.size inf.bytes ht hi hz rfl rfl hzs hsz v n xs hown a xn xc news hrd.1 (fun j u hj=>hrd.2.2.2.2 a rfl j u hj) h1 h63 hbytes hbase
   obtain⟨s,rfl,hn,hsz⟩:=an3 h2
   exact⟨s,w',hr,hn,h2,h3,h5,hsz⟩
theorem avj {c:Call} {a:Act} {j:J} {v1 v2:V} (hl:evL vw.ev c.args.toList=some [v1,v2]) (hev:∀x∈c.args.toList,∀v,vw.ev x=some v->v.den U j=some (a.eval x)):∃u1 u2,c.args.map a.eval = #[u1,u2]/\v1.den U j=some u1/\v2.den U j=some u2:=by
 obtain⟨h1,h2⟩:=iK (j:=j) (a:=a) hl hev
 match hm:c.args.toList.map a.eval,h2 with
 | [u1,u2],_=>
   rw[hm] at h1
   exact⟨u1,u2,by rw[<-Array.toArray_toList (xs:=c.args.map a.eval),Array.toList_map,hm],h1 0 _ u1 rfl rfl,h1 1 _ u2 rfl rfl⟩
theorem avb (U:Env) (a b:E):(catE a b).R U=a.R U++b.R U:=by
 unfold catE
 split
 ·simp[E.R]
 ·split<;>simp[E.R]
theorem yQ (hT:∀t i,(t,i)∈cx.ty->TIok P t i) {c:Call} {kw:Kw} (hop:o.op=.call c) (hc:c.callee=.builtin .append) {id t:Nat} (hl:evL vw.ev c.args.toList=some [.one .nsl,.one (.sl id)]) (hty:c.argTypes.toList=[t,t]) {i:TI} (hi:az t cx.ty=some i) {et:Nat} (ha:i.sle=some et) {ie:TI} (hie:az et cx.ty=some ie)
  {r:RowOb} (hr:vw.sw id=some r) (hq:r.ty=et/\r.ks.length=ie.size/\0<ie.size/\ie.bytes<=65536)
  (h:(decK (mkLt (fy r.l) (.lit bigB)) (fun b kw=>if b then k {val:=.one (.sl vw.nid),rr:=[id],re:=.mk [⟨r.ks,et,r.l,true,.sl⟩]} kw else .panic) kw).holds sp G U I) (hg:Good sp cx.sm U kw):Sound P sp U G I base cx vw o k kw:=by
 obtain⟨kw1,h1,g1,_,l1⟩:=ba _ _ _ h hg
 rw[ff,iG] at h1
 split at h1
 ·rename_i hbig
  have hbig':((r.l.R U).length:Int)<1073741824:=thm3 hbig
  refine⟨_,kw1,h1,g1,l1,fun j a w hb hev hrd hwr hrr hfb K Q hK=> ?_⟩
  obtain⟨s,hs,hok⟩:=hrr.sl id (by simp) r hr
  obtain⟨u1,u2,hargs,hd1,hd2⟩:=avj (j:=j) (a:=a) hl (fun x hx=>hev x (by simp[hop,Op.operands,Call.operands];exact .inr (by simpa using hx)))
  have e1:=an9 hd1
  have e2:=akI hs hd2
  subst e1 e2
  have hu:=(hT _ _ (ao hi)).sle et ha
  obtain⟨inf,z,hinf,hisz,hbytes,hz,hzl,hzd⟩:=(hT _ _ (ao hie)).info
  have hat:c.argTypes = #[t,t]:=by rw[<-Array.toArray_toList (xs:=c.argTypes),hty]
  have hn:=hok.n
  have hrd':=hok.rd
  rw[hq.2.1,<-hisz] at hrd'
  obtain⟨s',w',h2,h3,h4,h5,h6,h7⟩:=iz (P:=P) (base:=w.heap.size) (ty:=o.type) hu hinf hz (by rw[hisz];simpa using hzl) (by omega) (World.ownsRow_nil w w.heap.size et inf.size) hrd' acz (by simp only[maxLen];omega)
   (by
    have:(0+s.n)*inf.bytes<=1073741824*65536:=Nat.mul_le_mul (by omega) (by omega)
    omega) (Nat.le_refl _)
  simp only[bt,List.nil_append] at h3 h4
  rw[hisz,<-hq.2.1,<-h3] at h4
  refine ek (w':=w') (v:=s'.v) ?_ (hK _ (j.putL vw.nid [s']) _ anw (rb (Ext.of_grown h5) (RowOk.mk_own (r:=⟨r.ks,et,r.l,true,.sl⟩) rfl (by rw[h3];exact hn) hok.rows hok.pos h4) rfl rfl))
  simp only[execOp,hop,resolve,hc,hargs,hat,Sem.run_bind,Sem.run_pure,Result.andThen_ok,invoke,builtin,h2]
 ·exact h1.elim
theorem ada (hT:∀t i,(t,i)∈cx.ty->TIok P t i) {c:Call} {kw:Kw} (hop:o.op=.call c) (hc:c.callee=.builtin .append) {old id t:Nat} (hl:evL vw.ev c.args.toList=some [.one (.sl old),.one (.sl id)]) (hty:c.argTypes.toList=[t,t]) {i:TI} (hi:az t cx.ty=some i) {et:Nat} (ha:i.sle=some et) {ie:TI} (hie:az et cx.ty=some ie)
  {r q:RowOb} (hr:vw.sw id=some r) (hrq:vw.sw old=some q) (hq:r.ty=et/\r.ks.length=ie.size/\0<ie.size/\ie.bytes<=65536) (hq2:q.own=true/\q.ty=et/\q.ks=r.ks)
  (h:(decK (pN (mkLt (fy q.l) (.lit bigB)) (mkLt (fy r.l) (.lit bigB))) (fun b kw=>if b then k {val:=.one (.sl vw.nid),rr:=[old,id],re:=.app old ⟨r.ks,et,catE q.l r.l,true,.sl⟩} kw else .panic) kw).holds sp G U I) (hg:Good sp cx.sm U kw):Sound P sp U G I base cx vw o k kw:=by
 obtain⟨kw1,h1,g1,_,l1⟩:=ba _ _ _ h hg
 rw[fz,ff,ff,iG,iG] at h1
 split at h1
 ·rename_i hbig
  rw[thm0] at hbig
  have hb1:((q.l.R U).length:Int)<1073741824:=thm3 hbig.1
  have hb2:((r.l.R U).length:Int)<1073741824:=thm3 hbig.2
  refine⟨_,kw1,h1,g1,l1,fun j a w hb hev hrd hwr hrr hfb K Q hK=> ?_⟩
  obtain⟨s,hs,hok⟩:=hrr.sl id (by simp) r hr
  obtain⟨p,hp,hop'⟩:=hrr.sl old (by simp) q hrq
  obtain⟨u1,u2,hargs,hd1,hd2⟩:=avj (j:=j) (a:=a) hl (fun x hx=>hev x (by simp[hop,Op.operands,Call.operands];exact .inr (by simpa using hx)))
  have e1:=akI hp hd1
  have e2:=akI hs hd2
  subst e1 e2
  have hu:=(hT _ _ (ao hi)).sle et ha
  obtain⟨inf,z,hinf,hisz,hbytes,hz,hzl,hzd⟩:=(hT _ _ (ao hie)).info
  have hat:c.argTypes = #[t,t]:=by rw[<-Array.toArray_toList (xs:=c.argTypes),hty]
  have hn:=hok.n
  have hpn:=hop'.n
  have hown:=hop'.own hq2.1
  rw[hq2.2.1,hq2.2.2,hq.2.1,<-hisz] at hown
  have hrd':=hok.rd
  rw[hq.2.1,<-hisz] at hrd'
  obtain⟨s',w',h2,h3,h4,h5,h6,h7⟩:=iz (P:=P) (base:=base) (ty:=o.type) hu hinf hz (by rw[hisz];simpa using hzl) (by omega) hown hrd' acz (by simp only[maxLen];omega)
   (by
    have:(p.n+s.n)*inf.bytes<=2147483648*65536:=Nat.mul_le_mul (by omega) (by omega)
    omega) hb
  rw[<-aak,hisz,<-hq.2.1,<-h3] at h4
  have hR:(catE q.l r.l).R U=q.l.R U++r.l.R U:=avb U _ _
  refine ek (w':=w') (v:=s'.v) ?_ (hK _ (j.putS vw.nid s') _ apQ ⟨p,s',hp,h5,RowOk.mk_own (r:=⟨r.ks,et,catE q.l r.l,true,.sl⟩) rfl ?_ ⟨fun x hx=> ?_,?_⟩ hok.pos (by simp only[hR];exact h4),h6,Zin.nil h7,rfl,fun e=>by cases e⟩)
  ·simp only[execOp,hop,resolve,hc,hargs,hat,Sem.run_bind,Sem.run_pure,Result.andThen_ok,invoke,builtin,h2]
  ·simp only[hR,eV];omega
  ·simp only[hR,List.mem_append] at hx
   rcases hx with hx | hx
   ·have:=hop'.rows.row x hx;rw[hq2.2.2] at this;exact this
   ·exact hok.rows.row x hx
  ·simp only[hR,eV,maxLen];omega
 ·exact h1.elim
end
open Go.Sort (mapBlock onCells setCell_eq mapBlock_mapBlock mapBlock_congr)
section
variable {P:Program} {sp:Spec} {U:Env} {G:Env->E->Prop} {I:Nat->List Dt->Prop} {base:Nat} {cx:Cx} {vw:Vw} {o:Oper} {k:Eff->Kw->Tr}
theorem ai3 (e:E) (n:Nat):(inR e n).B U=(decide (0<=e.I U)&&decide (e.I U<(n:Int))):=by
 unfold inR
 rw[fz,df,ff,ff]
 show(!decide (e.I U<0)&&decide (e.I U<(n:Int)))=_
 congr 1
 by_cases h:e.I U<0
 ·rw[dU h,fW (by omega:¬0<=e.I U)];rfl
 ·rw[fW h,dU (by omega:0<=e.I U)];rfl
theorem ace {j:J} {b o n sz:Nat} {e:E} {off fo:Nat} {v:Value} (h:(C.pe b o n sz e off).den U j=some v):∃a,v=.pointer (some a)/\(C.pe b o n sz e (off+fo)).den U j=some (.pointer (some (a.add fo))):=by
 simp only[C.den,thm4] at h
 obtain⟨kk,hk,rfl⟩:=h
 exact⟨_,rfl,by simp only[C.den,hk,Option.map_some,be];congr 4;omega⟩
theorem sk {x:Operand} {kw:Kw} (hop:o.op=.nilCheck x) {b o0 n sz off:Nat} {e:E} (hx:vw.ev x=some (.one (.pe b o0 n sz e off))) (h:(k {val:=.one (.pe b o0 n sz e off)} kw).holds sp G U I) (hg:Good sp cx.sm U kw):Sound P sp U G I base cx vw o k kw:=by
 refine⟨_,kw,h,hg,.refl _,OpOk.pure fun j a w _ hev _ _ _=>⟨a.eval x,hev x (by simp[hop,Op.operands]) _ hx,?_⟩⟩
 have hd:=hev x (by simp[hop,Op.operands]) _ hx
 obtain⟨a',he,_⟩:=ace (fo:=0) (show(C.pe b o0 n sz e off).den U j=some (a.eval x) from hd)
 simp[execOp,hop,he]
theorem arL {j:J} {b o n sz off:Nat} {e:E} {v:Value} (h:(V.one (.pe b o n sz e off)).den U j=some v):∃kk,j.b b=some kk/\v=.pointer (some ⟨kk,o+((e.I U).toNat*sz+off),none⟩):=by
 simp only[V.den,C.den,thm4] at h
 obtain⟨kk,h1,h2⟩:=h
 exact⟨kk,h1,h2.symm⟩
theorem wd (hT:∀t i,(t,i)∈cx.ty->TIok P t i) {t:Nat} {x y:Operand} {kw:Kw} (hop:o.op=.indexAddr t x y) {b off:Nat} (hx:vw.ev x=some (.one (.ptr b off))) {k0:IntKind} {e:E} (hy:vw.ev y=some (.one (.int k0 e))) {i:TI} (hi:az t cx.ty=some i)
  {n et:Nat} (ha:i.arr=some (n,et)) {ie:TI} (hie:az et cx.ty=some ie)
  (h:(decK (inR e n) (fun ok kw=>if ok then k {val:=.one (.pe b off n ie.size e 0)} kw else .panic) kw).holds sp G U I) (hg:Good sp cx.sm U kw):Sound P sp U G I base cx vw o k kw:=by
 obtain⟨kw1,g1,q1,_,l1⟩:=ba _ _ _ h hg
 rw[ai3] at g1
 split at g1
 ·rename_i hr
  rw[thm0,aZ,aZ] at hr
  have hu:=(hT _ _ (ao hi)).arr n et ha
  have hs:=(hT _ _ (ao hie)).size
  refine⟨_,kw1,g1,q1,l1,OpOk.pure fun j a w _ hev _ _ _=> ?_⟩
  obtain⟨kk,hk,he⟩:=ly (hev x (by simp[hop,Op.operands]) _ hx)
  have hq:=cP (hev y (by simp[hop,Op.operands]) _ hy)
  refine⟨.pointer (some ⟨kk,off+((e.I U).toNat*ie.size+0),none⟩),by simp[V.den,C.den,hk],?_⟩
  have hadd:(⟨kk,off,none⟩:Addr).add ((e.I U).toNat*ie.size)=⟨kk,off+((e.I U).toNat*ie.size+0),none⟩:=by rw[be];simp
  simp[execOp,hop,he,hq,Instr.indexAt,run_underlying hu,Instr.sureAddr,asIntOf,hr,hs,Sem.run_bind,hadd]
 ·exact g1.elim
theorem ajw {j:J} {k0:IntKind} {sz c:Nat}:∀(n:Nat) (cs:List C) (l:E) (vs:List Value),colE k0 sz c n cs=some l->denL U j cs=some vs->∀m,m<n->vs[m*sz+c]? =some (.int k0 ((l.L U).getD m 0))
 | 0,cs,l,vs,_,_,m,hm=>absurd hm (by omega)
 | n+1,cs,l,vs,h,hd,m,hm=>by
   simp only[colE] at h
   split at h
   ·rename_i k' a t h1 h2
    split at h
    ·rename_i hk
     cases h
     cases m with
     | zero=>
       obtain⟨v,h3,h4⟩:=cH hd c _ h1
       rw[Nat.zero_mul,bt,h3,<-h4,aA hk]
       simp[C.den,E.L]
     | succ m=>
       have ih:=ajw n _ t _ h2 (iL hd sz) m (by omega)
       rw[List.getElem?_drop] at ih
       rw[show(m+1)*sz+c=sz+(m*sz+c) by rw[Nat.succ_mul];omega,ih]
       simp[E.L]
    ·cases h
   ·cases h
theorem uO {j:J} {e:E} {n sz:Nat} {cs:List C} {vs:List Value} (hd:denL U j cs=some vs) (h0:0<=e.I U) (h1:e.I U<(n:Int)):∀(m c:Nat) (ds:List C),aat e n sz cs c m=some ds->ds.length=m/\denL U j ds=some ((vs.drop ((e.I U).toNat*sz+c)).take m)
 | 0,c,ds,h=>by cases h;simp[denL]
 | m+1,c,ds,h=>by
   simp only[aat] at h
   split at h
   ·rename_i k0 a hc
    split at h
    ·rename_i l r h2 h3
     cases h
     obtain⟨e1,e2⟩:=uO hd h0 h1 m (c+1) r h3
     have e3:=ajw n cs l vs h2 hd (e.I U).toNat (by omega)
     refine⟨by simp[e1],?_⟩
     simp only[denL,C.den,E.I,e2]
     have hlt:=(cf.1 e3).1
     rw[List.drop_eq_getElem_cons hlt,List.take_succ_cons,(cf.1 e3).2]
     rfl
    ·cases h
   ·cases h
theorem afL (hT:∀t i,(t,i)∈cx.ty->TIok P t i) {t:Nat} {x:Operand} {kw:Kw} (hop:o.op=.load t x) {b o0 n sz off:Nat} {e:E} (hx:vw.ev x=some (.one (.pe b o0 n sz e off))) {i:TI} (hi:az t cx.ty=some i) {cs:List C} (hcs:vw.row b o0 (n*sz)=some cs) (hsz:off+i.size<=sz)
  (h:(decK (inR e n) (fun ok kw=>if ok then
      (match aat e n sz cs off i.size with
      | some ds=>if i.agg then k {val:=.agg ds,rd:=dk b o0 (n*sz)} kw else(match ds with
        | [d]=>k {val:=.one d,rd:=dk b o0 (n*sz)} kw
        | _=>.stuck 160)
      | none=>.stuck 161)
      else .stuck 162) kw).holds sp G U I) (hg:Good sp cx.sm U kw):Sound P sp U G I base cx vw o k kw:=by
 obtain⟨kw1,g1,q1,_,l1⟩:=ba _ _ _ h hg
 rw[ai3] at g1
 split at g1
 ·rename_i hr
  rw[thm0,aZ,aZ] at hr
  have ht:=hT _ _ (ao hi)
  have hrow:=vw.rowok _ _ _ _ hcs
  split at g1
  ·rename_i ds hds
   have cells:∀{j:J} {w:World} {kk:Nat},j.b b=some kk->RdOk U j w vw.ld (dk b o0 (n*sz))->∃us,denL U j ds=some us/\us.length=i.size/\∀(m:Nat) u,us[m]? =some u->w.cell? ⟨kk,o0+((e.I U).toNat*sz+off)+m,none⟩=some u:=by
    intro j w kk hk hrd
    obtain⟨vs,hd,-⟩:=de (P:=P) (U:=U) hk (n*sz) o0 cs hrow w hrd ⟨kk,o0,none⟩ 0 #[] (fun m=>by rw[be];simp)
    obtain⟨e1,e2⟩:=uO hd hr.1 hr.2 i.size off ds hds
    refine⟨_,e2,by rw[aM e2,e1],fun m u hu=> ?_⟩
    rw[List.getElem?_take] at hu
    split at hu
    ·rw[List.getElem?_drop] at hu
     obtain⟨hl,hget⟩:=iB _ _ _ hrow
     have hlt:=(cf.1 hu).1
     rw[aM hd] at hlt
     obtain⟨c0,hc0⟩:∃c0,cs[(e.I U).toNat*sz+off+m]? =some c0:=⟨_,thm6 hlt⟩
     have hld:=hget _ c0 hc0
     obtain⟨k',v,hk',hv,hcell⟩:=hrd (b,o0+((e.I U).toNat*sz+off+m)) (by
      have:∀(n o p:Nat),p<n->(b,o+p)∈dk b o n:=by
       intro n
       induction n with
       | zero=>intro o p hp;omega
       | succ n ih=>
         intro o p hp
         cases p with
         | zero=>simp[dk]
         | succ p=>simp only[dk,List.mem_cons];exact .inr (by have:=ih (o+1) p (by omega);rwa [show o+(p+1)=o+1+p by omega])
      exact this _ _ _ (by omega)) c0 hld
     simp only at hk' hcell
     rw[hk] at hk';cases hk'
     obtain⟨v',hv',hd'⟩:=cH hd _ c0 hc0
     rw[hv] at hd';cases hd'
     rw[hv'] at hu;cases hu
     rw[Nat.add_assoc]
     exact hcell
    ·cases hu
   split at g1
   ·rename_i hagg
    refine⟨_,kw1,g1,q1,l1,OpOk.pure fun j a w _ hev hrd _ _=> ?_⟩
    obtain⟨kk,hk,he⟩:=arL (hev x (by simp[hop,Op.operands]) _ hx)
    obtain⟨us,h1,h2,h3⟩:=cells hk hrd
    refine⟨.agg us.toArray,by simp[V.den,h1],?_⟩
    have hload:=fd (P:=P) (a:=⟨kk,o0+((e.I U).toNat*sz+off),none⟩) (w:=w) us 0 #[] (fun m u hu=>by rw[bt,be];exact h3 m u hu)
    rw[h2] at hload
    simp[execOp,hop,he,Instr.loadAt,Instr.sureAddr,Sem.run_bind,loadVar,ht.agg,hagg,ht.size,loadCells,hload]
   ·rename_i hagg
    split at g1
    ·rename_i d
     refine⟨_,kw1,g1,q1,l1,OpOk.pure fun j a w _ hev hrd _ _=> ?_⟩
     obtain⟨kk,hk,he⟩:=arL (hev x (by simp[hop,Op.operands]) _ hx)
     obtain⟨us,h1,h2,h3⟩:=cells hk hrd
     simp only[denL] at h1
     cases hdd:d.den U j with
     | none=>rw[hdd] at h1;cases h1
     | some v=>
       rw[hdd] at h1;cases h1
       have hcell:=h3 0 v rfl
       rw[Nat.add_zero] at hcell
       have hagg':i.agg=false:=by simpa using hagg
       refine⟨v,hdd,?_⟩
       simp[execOp,hop,he,Instr.loadAt,Instr.sureAddr,Sem.run_bind,loadVar,ht.agg,hagg',load,Sem.run,hcell]
    ·exact g1.elim
  ·exact g1.elim
 ·exact g1.elim
def setV:Nat->List Value->List Value->List Value
 | off+1,x::xs,us=>x::setV off xs us
 | 0,x::xs,u::us=>u::setV 0 xs us
 | _,xs,_=>xs
theorem fY:∀(off:Nat) (xs us:List Value) (p:Nat),(setV off xs us)[p]? =if off<=p/\p<off+us.length/\p<xs.length then us[p-off]? else xs[p]?
 | off+1,x::xs,us,0=>by simp[setV]
 | off+1,x::xs,us,p+1=>by
   simp only[setV,nm,fY off xs us p,List.length_cons]
   by_cases h:off<=p/\p<off+us.length/\p<xs.length
   ·rw[if_pos h,if_pos (by omega)];congr 1;omega
   ·rw[if_neg h,if_neg (by omega)]
 | 0,x::xs,u::us,0=>by simp[setV]
 | 0,x::xs,u::us,p+1=>by
   simp only[setV,nm,fY 0 xs us p,List.length_cons]
   by_cases h:0<=p/\p<0+us.length/\p<xs.length
   ·rw[if_pos h,if_pos (by omega)];simp
   ·rw[if_neg h,if_neg (by omega)]
 | 0,x::xs,[],p=>by
   rw[if_neg (by simp)]
   rfl
 | 0,[],us,p=>by cases us<;>simp[setV]
 | off+1,[],us,p=>by simp[setV]
theorem cK:∀(off:Nat) (xs us:List Value),(setV off xs us).length=xs.length
 | off+1,x::xs,us=>by simp[setV,cK off xs us]
 | 0,x::xs,u::us=>by simp[setV,cK 0 xs us]
 | 0,x::xs,[]=>rfl
 | 0,[],us=>by cases us<;>rfl
 | off+1,[],us=>rfl
theorem yR {j:J} {c:E}:∀(off:Nat) (xs vc r:List C) (vs us:List Value),setI c off xs vc=some r->denL U j xs=some vs->denL U j vc=some us->denL U j r=some (if c.B U=true then setV off vs us else vs)
 | off+1,x::xs,vc,r,vs,us,h,h1,h2=>by
   simp only[setI,thm4] at h
   obtain⟨r',h3,rfl⟩:=h
   simp only[denL] at h1
   cases hx:x.den U j with
   | none=>rw[hx] at h1;cases h1
   | some v=>
     cases hl:denL U j xs with
     | none=>rw[hx,hl] at h1;cases h1
     | some l=>
       rw[hx,hl] at h1;cases h1
       simp only[denL,hx,yR off xs vc r' l us h3 hl h2]
       split<;>simp[setV]
 | 0,xs,[],r,vs,us,h,h1,h2=>by
   cases h2
   have:r=xs:=by cases xs<;>simpa[setI] using h.symm
   subst this
   rw[h1]
   cases vs<;>simp[setV]
 | 0,x::xs,y::vc,r,vs,us,h,h1,h2=>by
   cases x<;>first | (simp only[setI] at h;cases h;done) | skip
   cases y<;>first | (simp only[setI] at h;cases h;done) | skip
   rename_i k a k' b
   simp only[setI] at h
   split at h
   ·rename_i hk
    rw[thm4] at h
    obtain⟨r',h3,rfl⟩:=h
    simp only[denL,C.den] at h1 h2
    cases hl:denL U j xs with
    | none=>rw[hl] at h1;cases h1
    | some l=>
      cases hm:denL U j vc with
      | none=>rw[hm] at h2;cases h2
      | some m=>
        rw[hl] at h1;cases h1
        rw[hm] at h2;cases h2
        simp only[denL,C.den,E.I,yR 0 xs vc r' l m h3 hl hm]
        split<;>simp[setV,aA hk]
   ·cases h
 | 0,[],y::vc,r,vs,us,h,h1,h2=>by simp[setI] at h
 | off+1,[],vc,r,vs,us,h,h1,h2=>by simp[setI] at h
theorem aiY {j:J} {e:E} {off sz:Nat} {vc:List C} {us:List Value} (hu:denL U j vc=some us) (hsz:off+us.length<=sz) (h0:0<=e.I U):∀(n m0:Nat) (cs ds:List C) (vs:List Value),iteR e off sz vc m0 n cs=some ds->denL U j cs=some vs->vs.length=n*sz->
  denL U j ds=some (if m0<=(e.I U).toNat/\(e.I U).toNat<m0+n then setV (((e.I U).toNat-m0)*sz+off) vs us else vs)
 | 0,m0,cs,ds,vs,h,hd,hl=>by
   cases h
   rw[if_neg (by omega),hd]
 | n+1,m0,cs,ds,vs,h,hd,hl=>by
   simp only[iteR] at h
   split at h
   ·rename_i a b h1 h2
    cases h
    have e1:=yR off _ _ _ _ _ h1 (lJ hd sz) hu
    have hl2:(vs.drop sz).length=n*sz:=by rw[List.length_drop,hl,Nat.succ_mul];omega
    have e2:=aiY hu hsz h0 n (m0+1) _ _ _ h2 (iL hd sz) hl2
    have hge:sz<=vs.length:=by rw[hl,Nat.succ_mul];omega
    rw[gF e1 e2]
    congr 1
    have hB:(E.eq e (.lit (m0:Int))).B U=decide ((e.I U).toNat=m0):=by
     simp only[E.B,E.I]
     rw[aJ]
     simp only[db,aZ]
     omega
    rw[hB]
    generalize (e.I U).toNat=M
    apply List.ext_getElem?
    intro p
    have tl:(vs.take sz).length=sz:=by rw[List.length_take];omega
    by_cases hM:M=m0
    ·subst hM
     rw[if_pos (by simp),if_neg (by omega),if_pos (by omega),Nat.sub_self,Nat.zero_mul,bt,fY]
     by_cases hp:p<sz
     ·rw[thm8 (by rw[cK,tl];exact hp),fY,tl,List.getElem?_take,if_pos hp]
      by_cases hq:off<=p/\p<off+us.length/\p<sz
      ·rw[if_pos hq,if_pos (by omega)]
      ·rw[if_neg hq,if_neg (by omega)]
     ·rw[thm9 (by rw[cK,tl];omega),cK,tl,List.getElem?_drop,if_neg (by omega)]
      congr 1;omega
    ·rw[if_neg (by simpa using hM)]
     by_cases hr:m0+1<=M/\M<m0+1+n
     ·rw[if_pos hr,if_pos (by omega),fY]
      have hmul:(M-m0)*sz=sz+(M-(m0+1))*sz:=by
       rw[show M-m0=(M-(m0+1))+1 by omega,Nat.succ_mul];omega
      by_cases hp:p<sz
      ·rw[thm8 (by rw[tl];exact hp),List.getElem?_take,if_pos hp,if_neg (by omega)]
      ·rw[thm9 (by rw[tl];omega),tl,fY,List.getElem?_drop,hl2]
       have hps:sz+(p-sz)=p:=by omega
       rw[hps]
       have hlen:vs.length=sz+n*sz:=by rw[hl,Nat.succ_mul];omega
       by_cases hq:(M-(m0+1))*sz+off<=p-sz/\p-sz<(M-(m0+1))*sz+off+us.length/\p-sz<n*sz
       ·rw[if_pos hq,if_pos (by omega)]
        congr 1;omega
       ·rw[if_neg hq,if_neg (by omega)]
     ·rw[if_neg hr,if_neg (by omega),List.take_append_drop]
   ·cases h
def putA:Nat->List Value->Array Value->Array Value
 | _,[],c=>c
 | o,v::vs,c=>putA (o+1) vs (c.setIfInBounds o v)
theorem uu:∀(vs:List Value) (o:Nat) (c:Array Value) (i:Nat),(putA o vs c)[i]? =if o<=i/\i<o+vs.length/\i<c.size then vs[i-o]? else c[i]?
 | [],o,c,i=>by rw[if_neg (by simp only[List.length_nil];omega)];rfl
 | v::vs,o,c,i=>by
   simp only[putA,uu vs (o+1),Array.size_setIfInBounds,List.length_cons]
   rcases Nat.lt_trichotomy i o with h | h | h
   ·rw[if_neg (by omega),if_neg (by omega),Array.getElem?_setIfInBounds,if_neg (by omega)]
   ·subst h
    rw[if_neg (by omega),Array.getElem?_setIfInBounds,if_pos rfl]
    by_cases hs:i<c.size
    ·rw[if_pos hs,if_pos (by omega)];simp
    ·rw[if_neg hs,if_neg (by omega),Array.getElem?_eq_none (by omega)]
   ·by_cases hq:o+1<=i/\i<o+1+vs.length/\i<c.size
    ·rw[if_pos hq,if_pos (by omega),show i-o=(i-(o+1))+1 by omega];rfl
    ·rw[if_neg hq,if_neg (by omega),Array.getElem?_setIfInBounds,if_neg (by omega)]
theorem lT {j:J} {b kk:Nat} (hk:j.b b=some kk):∀(cs:List C) (o:Nat) (vs:List Value) (w:World),denL U j cs=some vs->rJ U j (dP b o cs) w (mapBlock w kk (putA o vs))/\∀w',rJ U j (dP b o cs) w w'->w'=mapBlock w kk (putA o vs)
 | [],o,vs,w,hd=>by
   cases hd
   have e:mapBlock w kk (putA o [])=w:=Go.Sort.mapBlock_id w kk _ (fun c e fr _=>rfl)
   rw[e]
   exact⟨rfl,fun w' h=>h⟩
 | c::cs,o,vs,w,hd=>by
   simp only[denL] at hd
   cases hc:c.den U j with
   | none=>rw[hc] at hd;cases hd
   | some v=>
     cases hl:denL U j cs with
     | none=>rw[hc,hl] at hd;cases hd
     | some l=>
       rw[hc,hl] at hd;cases hd
       obtain⟨i1,i2⟩:=lT hk cs (o+1) l (w.setCell ⟨kk,o,none⟩ v) hl
       have e:mapBlock (w.setCell ⟨kk,o,none⟩ v) kk (putA (o+1) l)=mapBlock w kk (putA o (v::l)):=by
        rw[setCell_eq,mapBlock_mapBlock]
        rfl
       rw[e] at i1 i2
       refine⟨⟨kk,v,hk,hc,i1⟩,?_⟩
       rintro w' ⟨k2,v2,g1,g2,g3⟩
       rw[hk] at g1;cases g1
       rw[hc] at g2;cases g2
       exact i2 w' g3
theorem xq {b:Nat}:∀(n o p:Nat),p<n->(b,o+p)∈dk b o n
 | 0,_,_,h=>absurd h (by omega)
 | n+1,o,0,_=>by simp[dk]
 | n+1,o,p+1,h=>by
   simp only[dk,List.mem_cons]
   have:=xq (b:=b) n (o+1) p (by omega)
   rw[show o+1+p=o+(p+1) by omega] at this
   exact .inr this
theorem xp {b:Nat}:∀(cs:List C) (o p:Nat) (c:C),cs[p]? =some c->(b,o+p,c)∈dP b o cs
 | [],_,_,_,h=>by simp at h
 | x::cs,o,0,c,h=>by simp at h;subst h;simp[dP]
 | x::cs,o,p+1,c,h=>by
   simp only[dP,List.mem_cons]
   have:=xp (b:=b) cs (o+1) p c (by simpa using h)
   rw[show o+1+p=o+(p+1) by omega] at this
   exact .inr this
theorem abQ {b:Nat}:∀(cs:List C) (o:Nat) (q:Nat×Nat×C),q∈dP b o cs->q.1=b/\∃p,p<cs.length/\q.2.1=o+p
 | [],_,q,h=>by simp[dP] at h
 | x::cs,o,q,h=>by
   simp only[dP,List.mem_cons] at h
   rcases h with rfl | h
   ·exact⟨rfl,0,by simp,rfl⟩
   ·obtain⟨h1,p,h2,h3⟩:=abQ cs (o+1) q h
    exact⟨h1,p+1,by simp;omega,by omega⟩
theorem ac5 (hT:∀t i,(t,i)∈cx.ty->TIok P t i) {t:Nat} {x y:Operand} {kw:Kw} (hop:o.op=.store t x y) {b o0 n sz off:Nat} {e:E} (hx:vw.ev x=some (.one (.pe b o0 n sz e off))) {v:V} (hy:vw.ev y=some v) {i:TI} (hi:az t cx.ty=some i) {cs:List C} (hcs:vw.row b o0 (n*sz)=some cs)
  (hf:v.flat=true) (hn:v.cells.length=i.size) (hsz:off+i.size<=sz) (hcl:cs.length=n*sz)
  (h:(decK (inR e n) (fun ok kw=>if ok then
      (match iteR e off sz v.cells 0 n cs with
      | some ds=>if ds.all C.solid&&(cs.all C.solid&&v.cells.all C.solid) then k {val:=.one .undef,rd:=dk b o0 (n*sz),wr:=dP b o0 ds} kw else .stuck 165
      | none=>.stuck 166)
      else .stuck 167) kw).holds sp G U I) (hg:Good sp cx.sm U kw):Sound P sp U G I base cx vw o k kw:=by
 obtain⟨kw1,g1,q1,_,l1⟩:=ba _ _ _ h hg
 rw[ai3] at g1
 split at g1
 ·rename_i hr
  rw[thm0,aZ,aZ] at hr
  have ht:=hT _ _ (ao hi)
  have hrow:=vw.rowok _ _ _ _ hcs
  split at g1
  ·rename_i ds hds
   split at g1
   ·rename_i hsol
    simp only[thm0] at hsol
    refine⟨_,kw1,g1,q1,l1,fun j a w _ hev hrd hwr _ _ K Q hK=> ?_⟩
    obtain⟨kk,hk,he⟩:=arL (hev x (by simp[hop,Op.operands]) _ hx)
    have hd:=V.cells_ok (hev y (by simp[hop,Op.operands]) v hy) hf
    obtain⟨vs,hvs,-⟩:=de (P:=P) (U:=U) hk (n*sz) o0 cs hrow w hrd ⟨kk,o0,none⟩ 0 #[] (fun m=>by rw[be];simp)
    have hul:(a.eval y).cells.toList.length=i.size:=by rw[aM hd,hn]
    have hvl:vs.length=n*sz:=by rw[aM hvs,hcl]
    have hnew:=aiY hd (by rw[hul];exact hsz) hr.1 n 0 cs ds vs hds hvs hvl
    rw[if_pos (by omega),Nat.sub_zero] at hnew
    generalize hM:(e.I U).toNat=M at *
    have hMn:M<n:=by omega
    have hMs:M*sz+off+i.size<=n*sz:=by
     have:(M+1)*sz<=n*sz:=Nat.mul_le_mul_right sz hMn
     rw[Nat.succ_mul] at this
     omega
    have old:∀p,p<n*sz->w.cell? ⟨kk,o0+p,none⟩=vs[p]? :=by
     intro p hp
     obtain⟨hl,hget⟩:=iB _ _ _ hrow
     obtain⟨c0,hc0⟩:∃c0,cs[p]? =some c0:=⟨_,thm6 (by omega)⟩
     obtain⟨k',v',hk',hv',hcell⟩:=hrd (b,o0+p) (xq _ _ _ hp) c0 (hget _ c0 hc0)
     simp only at hk' hcell
     rw[hk] at hk';cases hk'
     obtain⟨v2,hv2,hd2⟩:=cH hvs p c0 hc0
     rw[hv'] at hd2;cases hd2
     rw[hcell,hv2]
    have hdl:ds.length=n*sz:=by
     have:=aM hnew
     rw[cK] at this
     omega
    have hw2:WrOk j w (dP b (o0+(M*sz+off)) v.cells):=by
     intro q hq
     obtain⟨e1,p,e2,e3⟩:=abQ _ _ _ hq
     obtain⟨c1,hc1⟩:∃c1,ds[M*sz+off+p]? =some c1:=⟨_,thm6 (by omega)⟩
     obtain⟨k3,u3,f1,f2,f3⟩:=hwr _ (xp ds o0 _ c1 hc1)
     refine⟨k3,u3,by rw[e1];exact f1,?_,?_⟩
     ·rw[e3,Nat.add_assoc];exact f2
     ·rw[e3,Nat.add_assoc];exact f3
    obtain⟨w',h1,h2⟩:=dA (P:=P) hk ⟨kk,o0+(M*sz+off),none⟩ v.cells (o0+(M*sz+off)) 0 _ w (fun m=>by rw[be];simp) hd hsol.2.2 hw2
    have e1:=(lT hk v.cells _ _ w hd).2 w' h1
    have e2:=(lT hk ds o0 _ w hnew).1
    have e3:mapBlock w kk (putA (o0+(M*sz+off)) (a.eval y).cells.toList)=mapBlock w kk (putA o0 (setV (M*sz+off) vs (a.eval y).cells.toList)):=by
     refine mapBlock_congr w kk _ _ fun c ec fr hc=> ?_
     have oldc:∀p,p<n*sz->c[o0+p]? =vs[p]? :=fun p hp=>by
      have:=old p hp
      rw[<-this]
      simp[World.cell?,hc]
     apply Array.ext_getElem?
     intro q
     rw[uu,uu,cK,hvl]
     by_cases hq:o0<=q/\q<o0+n*sz/\q<c.size
     ·rw[if_pos hq,fY]
      by_cases hq2:M*sz+off<=q-o0/\q-o0<M*sz+off+(a.eval y).cells.toList.length/\q-o0<vs.length
      ·rw[if_pos hq2,if_pos (by omega)]
       congr 1;omega
      ·rw[if_neg hq2,if_neg (by omega),<-oldc (q-o0) (by omega)]
       congr 1;omega
     ·rw[if_neg hq,if_neg (by omega)]
    rw[e3] at e1
    have hsz':(a.eval y).cells.size=i.size:=by rw[<-Array.length_toList];exact hul
    refine vd (w':=w') ?_ (hK _ j w' rfl ⟨rfl,w,Ext.refl w,by rw[e1];exact e2⟩)
    simp[execOp,hop,he,Instr.storeAt,Instr.sureAddr,Sem.run_bind,storeVar,ht.size,hsz',h2]
   ·exact g1.elim
  ·exact g1.elim
 ·exact g1.elim
end
section
variable {P:Program} {sp:Spec} {U:Env} {G:Env->E->Prop} {I:Nat->List Dt->Prop} {base:Nat} {cx:Cx} {vw:Vw} {o:Oper} {k:Eff->Kw->Tr}
theorem ar4 {f:E->E->E} {g:Int->Int->Int} (hf:∀a b,(f a b).I U=g (a.I U) (b.I U)) {m2:Value->Value->Sem Value} {k0:IntKind} (hm:∀x y w,(m2 (.int k0 x) (.int k0 y)).run P w=.ok (.int k0 (g x y)) w) {j:J}:
  ∀(l:List V) (e e':E) (us:List Value),mmK f k0 e l=some e'->(∀(i:Nat) x u,l[i]? =some x->us[i]? =some u->x.den U j=some u)->us.length=l.length->∀w,(us.foldlM m2 (.int k0 (e.I U))).run P w=.ok (.int k0 (e'.I U)) w
 | [],e,e',us,h,hu,hl,w=>by
   cases h
   cases us with
   | nil=>simp
   | cons _ _=>cases hl
 | v::l,e,e',us,h,hu,hl,w=>by
   cases us with
   | nil=>cases hl
   | cons u us=>
     cases v with
     | one c=>
       cases c with
       | int kd x=>
         simp only[mmK] at h
         split at h
         ·rename_i hk
          have:=aA hk
          subst this
          have h1:=cP (hu 0 _ u rfl rfl)
          subst h1
          have h2:=ar4 hf hm l (f e x) e' us h (fun i y u hy hu'=>hu (i+1) y u (by simpa using hy) (by simpa using hu')) (by simpa using hl) w
          rw[hf] at h2
          simp only[List.foldlM_cons,Sem.run_bind,hm,Result.andThen_ok,h2]
         ·cases h
       | _=>simp[mmK] at h
     | _=>simp[mmK] at h
theorem ef {c:Call} {a:Act}:(c.args.map a.eval).toList=c.args.toList.map a.eval:=Array.toList_map ..
theorem anv (mx:Bool) {c:Call} {kw:Kw} (hop:o.op=.call c) (hc:c.callee=.builtin (if mx then .max else .min)) {k0:IntKind} {e e':E} {l:List V} (hl:evL vw.ev c.args.toList=some (.one (.int k0 e)::l)) (he:mmK (if mx then aiC else aiB) k0 e l=some e')
  (h:(k {val:=.one (.int k0 e')} kw).holds sp G U I) (hg:Good sp cx.sm U kw):Sound P sp U G I base cx vw o k kw:=by
 refine⟨_,kw,h,hg,.refl _,OpOk.pure fun j a w _ hev _ _ _=>⟨.int k0 (e'.I U),rfl,?_⟩⟩
 obtain⟨h1,h2⟩:=iK (j:=j) (a:=a) hl (fun x hx=>hev x (by simp[hop,Op.operands,Call.operands];exact .inr (by simpa using hx)))
 obtain⟨u,us,hus⟩:∃u us,c.args.toList.map a.eval=u::us:=by
  cases hm:c.args.toList.map a.eval with
  | nil=>rw[hm] at h2;cases h2
  | cons u us=>exact⟨u,us,rfl⟩
 rw[hus] at h1 h2
 have hu:=cP (h1 0 _ u rfl rfl)
 subst hu
 have hlist:(c.args.map a.eval).toList=.int k0 (e.I U)::us:=by rw[ef,hus]
 cases mx with
 | true=>
   have h3:=ar4 (P:=P) (U:=U) (f:=aiC) (g:=max) (ar6 U) (m2:=Builtin.max2) (k0:=k0) (fun x y w=>by simp[Builtin.max2,pO.2]) l e e' us (by simpa using he) (fun i x u hx hu=>h1 (i+1) x u (by simpa using hx) (by simpa using hu)) (by simpa using h2) w
   simp only[execOp,hop,resolve,hc,if_true,Sem.run_bind,Sem.run_pure,Result.andThen_ok,invoke,builtin,Builtin.max_,hlist,h3]
 | false=>
   have h3:=ar4 (P:=P) (U:=U) (f:=aiB) (g:=min) (ar5 U) (m2:=Builtin.min2) (k0:=k0) (fun x y w=>by simp[Builtin.min2,pO.1]) l e e' us (by simpa using he) (fun i x u hx hu=>h1 (i+1) x u (by simpa using hx) (by simpa using hu)) (by simpa using h2) w
   simp only[execOp,hop,resolve,hc,Bool.false_eq_true,if_false,Sem.run_bind,Sem.run_pure,Result.andThen_ok,invoke,builtin,Builtin.min_,hlist,h3]
theorem avm {vk:List VK} {ks:List CK} (hv:Vk U vk) (hr:(∀(n:Nat) k,ks[n]? =some (.int k)->inK k (U.i (vk.length+n))=true)/\∀(n:Nat) k ty,ks[n]? =some (.sl k ty)->RowsIn k (U.l (vk.length+n))):Vk U (vk++ks.map yl):=by
 constructor
 ·intro n kd h
  rcases aX n vk.length with hlt | hge
  ·rw[thm8 hlt] at h
   exact hv.i n kd h
  ·rw[thm9 hge,ji,thm4] at h
   obtain⟨c,hc,hk⟩:=h
   cases c<;>simp only[yl] at hk<;>first | cases hk | skip
   have:=hr.1 _ _ hc
   rwa [show vk.length+(n-vk.length)=n by omega] at this
 ·intro n kd h
  rcases aX n vk.length with hlt | hge
  ·rw[thm8 hlt] at h
   exact hv.l n kd h
  ·rw[thm9 hge,ji,thm4] at h
   obtain⟨c,hc,hk⟩:=h
   cases c<;>simp only[yl] at hk<;>first | cases hk | skip
   have:=hr.2 _ _ _ hc
   rwa [show vk.length+(n-vk.length)=n by omega] at this
theorem ajp {vk:List VK} (hv:Vk U vk) {rw:Nat->Option RowOb} {k:CK} {c:C} {t e:E} (h:encC vk rw k c t=some e):ckIn k (e.D U) (t.D U):=by
 unfold encC at h
 split at h
 ·split at h
  ·rename_i hk
   cases h
   simp only[thm0] at hk
   exact⟨_,rfl,E.rng_ok hv _ hk.2⟩
  ·cases h
 ·cases h;exact⟨_,rfl⟩
 ·split at h
  ·cases h;exact rfl
  ·cases h
 ·split at h
  ·cases h;exact rfl
  ·cases h
 ·rw[thm4] at h
  obtain⟨l,hl,rfl⟩:=h
  refine⟨_,rfl,?_⟩
  unfold gQ at hl
  split at hl
  ·split at hl
   ·split at hl
    ·rename_i hq
     simp only[thm0] at hq
     cases hl
     exact E.lok_ok hv _ hq.2.2
    ·cases hl
   ·cases hl
  ·cases hl;intro r hr;cases hr
  ·cases hl
 ·cases h;exact rfl
 ·cases h;exact rfl
 ·split at h
  ·split at h
   ·rename_i hq
    simp only[thm0] at hq
    cases h
    exact⟨rfl,hq.2.2⟩
   ·cases h
  ·cases h
 ·cases h
theorem acG {vk:List VK} (hv:Vk U vk) {rw:Nat->Option RowOb}:∀{ks:List CK} {cs:List C} {t e:E},yf vk rw ks cs t=some e->adO ks (e.D U) (t.D U)
 | [],[],t,e,h=>by cases h;exact rfl
 | k::ks,c::cs,t,e,h=>by
   simp only[yf,bS] at h
   obtain⟨e',h1,h2⟩:=h
   exact⟨_,ajp hv h2,acG hv h1⟩
theorem aap {vk:List VK} (hv:Vk U vk) {rw:Nat->Option RowOb} {ks:List CK} {cs:List C} {t e:E} (h:encL vk rw ks cs t=some e):adO ks (e.D U) (t.D U):=acG hv (ye h)
theorem mu {j:J} {l e:E}:∀(ks:List CE) (c0:Nat),∃vs,denL U j (jl l e c0 ks)=some vs/\vs.length=ks.length/\∀(m:Nat) ck,ks[m]? =some ck->vs[m]? =some (iN ck (gt (l.R U) (e.I U) (c0+m)))
 | [],c0=>⟨[],rfl,rfl,fun m ck h=>by simp at h⟩
 | k::ks,c0=>by
   obtain⟨vs,h1,h2,h3⟩:=mu (j:=j) (l:=l) (e:=e) ks (c0+1)
   refine⟨iN k (gt (l.R U) (e.I U) c0)::vs,by simp only[jl,denL,uq,h1],by simp[h2],fun m ck h=> ?_⟩
   cases m with
   | zero=>simp at h;subst h;simp
   | succ m=>
     have:=h3 m ck (by simpa using h)
     simpa[Nat.add_assoc,Nat.add_comm 1 m] using this
theorem au3 {vk:List VK} (hv:Vk U vk) {ks:List CE} {ty id z:Nat} {e t x:E} (h:elE vk vw ks id z e t=some x):ckIn (.el ks ty) (x.D U) (t.D U):=by
 unfold elE at h
 split at h
 ·rename_i r hr
  split at h
  ·rw[thm4] at h
   obtain⟨q,hq,rfl⟩:=h
   obtain⟨vs,h1,_⟩:=mu (U:=U) (j:=⟨fun _=>none,fun _=>none,fun _=>none,Gh.zero⟩) (l:=r.l) (e:=e) ks 0
   exact⟨q.L U,rfl,(pB hv hq h1).2⟩
  ·cases h
 ·cases h
theorem au2 {vk:List VK} (hv:Vk U vk) {j:J} {w:World} {ks:List CE} {ty id z:Nat} {e t x:E} (hrr:RrOk U base j w vw.rw [id]) (hin:∀r,vw.sw id=some r->(inB e r.l).B U=true) (h:elE vk vw ks id z e t=some x) {u:Value} (hu:(V.one (.ep id z e 0)).den U j=some u):yk w (.el ks ty) (x.D U) u (t.D U):=by
 unfold elE at h
 split at h
 ·rename_i r hr
  split at h
  ·rename_i hq
   rw[thm4] at h
   obtain⟨q,hx,rfl⟩:=h
   simp only[thm0] at hq
   have hks:=bV hq.1
   have hz:=thm1 hq.2
   subst hks hz
   obtain⟨s,hs,hok⟩:=hrr.sl id (by simp) r hr
   obtain⟨a,ha,rfl⟩:=yb hs hu
   obtain⟨vs,h1,h2,h3⟩:=mu (U:=U) (j:=j) (l:=r.l) (e:=e) r.ks 0
   obtain⟨h4,h5⟩:=pB hv hx h1
   have hb:=hin r hr
   rw[aaf] at hb
   simp only[thm0,aZ] at hb
   have hpos:0<s.n:=by have:=hok.n;omega
   have hc:s.c≠0:=by have:=hok.rd.2.1;omega
   refine⟨q.L U,_,rfl,rfl,h5,hok.lt _ (bv (yn hc ?_)),fun c u hcu=> ?_⟩
   ·simp only[SV.v,Value.ownBlock,ha]
    unfold Addr.add
    split<;>rfl
   ·have hfl:flat r.ks [q.L U]=vs:=by rw[h4];simp[flat]
    rw[hfl] at hcu
    have hlt:c<r.ks.length:=by rw[<-h2];exact(cf.1 hcu).1
    have hck:=thm6 hlt
    have h6:=h3 c _ hck
    rw[hcu] at h6
    cases h6
    rw[bt,ct,Nat.add_zero]
    exact hok.rd.2.2.2.2 a ha _ _ (nI hck hok.rows.row (by omega))
  ·cases h
 ·cases h
theorem amJ {x:V} {xs:List V} (h:(inA vw (x::xs)).B U=true):(inA vw xs).B U=true/\∀id z e,x=.one (.ep id z e 0)->∀r,vw.sw id=some r->(inB e r.l).B U=true:=by
 by_cases hx:∃id z e,x=.one (.ep id z e 0)
 ·obtain⟨id,z,e,rfl⟩:=hx
  simp only[inA] at h
  split at h
  ·rename_i r hr
   rw[fz,thm0] at h
   refine⟨h.2,fun id' z' e' he r' hr'=> ?_⟩
   cases he
   rw[hr] at hr'
   cases hr'
   exact h.1
  ·rename_i hr
   refine⟨h,fun id' z' e' he r' hr'=> ?_⟩
   cases he
   rw[hr] at hr'
   cases hr'
 ·have e:inA vw (x::xs)=inA vw xs:=by
   cases x with
   | one c=>cases c with
     | ep id z e o=>cases o with
       | zero=>exact(hx ⟨_,_,_,rfl⟩).elim
       | succ o=>rfl
     | _=>rfl
   | _=>rfl
  rw[e] at h
  exact⟨h,fun id z e he=>(hx ⟨_,_,_,he⟩).elim⟩
theorem ajr {vk:List VK} (hv:Vk U vk):∀{ss:List Sh} {xs:List V} {e:E},encA vk vw ss xs=some e->ajR ss (e.D U)
 | [],[],e,h=>by cases h;exact rfl
 | s::ss,x::xs,e,h=>by
   simp only[encA,bS] at h
   obtain⟨e',h1,h2⟩:=h
   refine⟨e'.D U,?_,ajr hv h1⟩
   unfold encV at h2
   split at h2
   ·exact aap hv h2
   ·exact⟨_,au3 hv h2,rfl⟩
   ·exact⟨_,ajp hv h2,rfl⟩
   ·split at h2
    ·rw[bS] at h2
     obtain⟨cs,_,h2⟩:=h2
     exact aap hv h2
    ·cases h2
   ·rw[bS] at h2
    obtain⟨cs,_,h2⟩:=h2
    split at h2
    ·exact aap hv h2
    ·cases h2
   ·cases h2
theorem ajo {vk:List VK} (hv:Vk U vk) {j:J} {w:World} {k:CK} {c:C} {t e:E} (hrr:RrOk U base j w vw.rw (er [c])) (hd:k=.any->∃v,c.den U j=some v) (h:encC vk vw.tw k c t=some e):∃v,c.den U j=some v/\yk w k (e.D U) v (t.D U):=by
 unfold encC at h
 split at h
 ·split at h
  ·rename_i hk
   cases h
   simp only[thm0] at hk
   refine⟨_,rfl,_,rfl,?_,E.rng_ok hv _ hk.2⟩
   rw[aA hk.1]
  ·cases h
 ·cases h;exact⟨_,rfl,_,rfl,rfl⟩
 ·split at h
  ·rename_i hg
   cases h
   refine⟨_,rfl,rfl,?_⟩
   rw[thm1 hg]
  ·cases h
 ·split at h
  ·rename_i hg
   cases h
   simp only[thm0] at hg
   refine⟨_,rfl,rfl,?_⟩
   rw[aA hg.1,dT hg.2]
   rfl
  ·cases h
 ·rw[thm4] at h
  obtain⟨l,hl,rfl⟩:=h
  unfold gQ at hl
  split at hl
  ·rename_i id
   split at hl
   ·rename_i r hr
    split at hl
    ·rename_i hq
     simp only[thm0] at hq
     cases hl
     obtain⟨hrw,hkd⟩:=Vw.tw_some hr
     obtain⟨s,hs,hok,hz⟩:=hrr id (by simp[er]) r hrw
     have hks:=bV hq.1
     subst hks
     refine⟨s.v,by simp[C.den,hs],_,s,rfl,rfl,?_,?_,hok.rows,fun k hk=>hok.lt k (bv hk)⟩
     ·rcases bM r.ks with⟨_,h1⟩ | ⟨_,h1⟩
      ·exact(hok.2.2 (hkd.trans h1)).n
      ·exact(hok.1 (hkd.trans h1)).n
     ·unfold TRow
      rcases bM r.ks with⟨_,h1⟩ | ⟨_,h1⟩
      ·rw[h1]
       exact(hok.2.2 (hkd.trans h1)).told ⟨hz.1,hz.2.1⟩
      ·rw[h1]
       exact(hok.1 (hkd.trans h1)).rd
    ·cases hl
   ·cases hl
  ·cases hl
   refine⟨_,rfl,[],⟨none,0,0,[]⟩,rfl,rfl,rfl,TRow.nil,⟨fun r hr=>(by cases hr),by simp⟩,fun k hk=>(by cases hk)⟩
  ·cases hl
 ·cases h;exact⟨_,rfl,rfl,rfl⟩
 ·cases h
  obtain⟨v,hv⟩:=hd rfl
  exact⟨v,hv,rfl⟩
 ·rename_i L id
  split at h
  ·rename_i r hr
   split at h
   ·rename_i hq
    simp only[thm0] at hq
    cases h
    obtain⟨hrw,hkd⟩:=Vw.tw_some hr
    obtain⟨s,hs,hok,hz⟩:=hrr id (by simp[er]) r hrw
    have hks:=bV hq.1.1
    subst hks
    obtain⟨hR,hrows,hp,hk2⟩:=zP (U:=U) hq.2.2
    have hl:r.l.R U=L:=by
     rcases(bH _ _).mp hq.2.1 with h1 | h1
     ·exact(congrArg (E.R U) (E.same_eq h1)).trans hR
     ·rw[E.same_eq h1]
      exact auh (by have:=hq.2.2;simp only[rlOk,thm0] at this;exact this.1)
    have hso:=hok.1 (hkd.trans hk2)
    refine⟨s.v,by simp[C.den,hs],rfl,hq.2.2,s,rfl,?_,?_,fun k hk=>hok.lt k (bv hk)⟩
    ·rw[<-hl];exact hso.n
    ·unfold TRow
     rw[hk2,<-hl]
     exact hso.rd
   ·cases h
  ·cases h
 ·cases h
theorem RrOk.mono {j:J} {w:World} {rw:Nat->Option RowOb} {l l':List Nat} (h:RrOk U base j w rw l) (hs:∀x∈l',x∈l):RrOk U base j w rw l':=fun id hid r hr=>h id (hs id hid) r hr
theorem qK {c:C} {cs:List C}:(∀x∈er [c],x∈er (c::cs))/\∀x∈er cs,x∈er (c::cs):=by
 cases c<;>simp[er]<;>intro x hx<;>exact .inr hx
theorem acF {vk:List VK} (hv:Vk U vk) {j:J} {w:World}:∀{ks:List CK} {cs:List C} {t e:E},RrOk U base j w vw.rw (er cs)->(∀c∈cs,CK.any∈ks->∃v,c.den U j=some v)->yf vk vw.tw ks cs t=some e->∃vs,denL U j cs=some vs/\jx w ks (e.D U) vs (t.D U)
 | [],[],t,e,_,_,h=>by cases h;exact⟨[],rfl,rfl,rfl⟩
 | k::ks,c::cs,t,e,hrr,hd,h=>by
   simp only[yf,bS] at h
   obtain⟨e',h1,h2⟩:=h
   obtain⟨vs,h3,h4⟩:=acF hv (hrr.mono qK.2) (fun c hc ha=>hd c (cm _ hc) (cm _ ha)) h1
   obtain⟨v,h5,h6⟩:=ajo hv (hrr.mono qK.1) (fun e=>hd c bD (by rw[e];exact bD)) h2
   exact⟨v::vs,by simp[denL,h3,h5],v,vs,_,rfl,h6,h4⟩
theorem aao {vk:List VK} (hv:Vk U vk) {j:J} {w:World} {ks:List CK} {cs:List C} {t e:E} (hrr:RrOk U base j w vw.rw (er cs)) (hd:∀c∈cs,CK.any∈ks->∃v,c.den U j=some v) (h:encL vk vw.tw ks cs t=some e):∃vs,denL U j cs=some vs/\jx w ks (e.D U) vs (t.D U):=acF hv hrr hd (ye h)
theorem qT {j:J} {w:World} {b kk:Nat} (hj:j.b b=some kk):∀{n off:Nat} {cs:List C},iC vw.ld b off n=some cs->RdOk U j w vw.ld (dk b off n)->cs.length=n/\∃vs,denL U j cs=some vs/\∀(m:Nat) u,vs[m]? =some u->w.cell? ⟨kk,off+m,none⟩=some u
 | 0,off,cs,h,_=>by cases h;exact⟨rfl,[],rfl,fun m u hu=>by simp at hu⟩
 | n+1,off,cs,h,hrd=>by
   simp only[iC] at h
   cases hc:vw.ld b off with
   | none=>rw[hc] at h;cases h
   | some c=>
     cases hl:iC vw.ld b (off+1) n with
     | none=>rw[hc,hl] at h;cases h
     | some l=>
       rw[hc,hl] at h;cases h
       obtain⟨k',v,h1,h2,h3⟩:=hrd (b,off) (by simp[dk]) c hc
       simp only at h1 h3
       rw[hj] at h1;cases h1
       obtain⟨e0,vs,e1,e2⟩:=qT hj hl (fun p hp=>hrd p (by simp[dk];exact .inr hp))
       refine⟨by simp[e0],v::vs,by simp[denL,h2,e1],fun m u hu=> ?_⟩
       cases m with
       | zero=>simp at hu;subst hu;exact h3
       | succ m=>
         have:=e2 m u (by simpa using hu)
         rwa [show off+(m+1)=off+1+m by omega]
theorem ajq {vk:List VK} (hv:Vk U vk) {j:J} {w:World}:∀{ss:List Sh} {xs:List V} {e:E},RrOk U base j w vw.rw (fS vw ss xs)->RdOk U j w vw.ld (uV ss xs)->FbOk sp.hw U j w vw.fb->encA vk vw ss xs=some e->(inA vw xs).B U=true->∀us:List Value,(∀(i:Nat) x u,xs[i]? =some x->us[i]? =some u->x.den U j=some u)->us.length=xs.length->lZ w ss (e.D U) us
 | [],[],e,_,_,_,h,_,us,hu,hl=>by
   cases h
   cases us with
   | nil=>exact⟨rfl,rfl⟩
   | cons _ _=>cases hl
 | s::ss,x::xs,e,hrr,hrd,hfb,h,hin,us,hu,hl=>by
   obtain⟨hin1,hin2⟩:=amJ hin
   simp only[encA,bS] at h
   obtain⟨e',h1,h2⟩:=h
   cases us with
   | nil=>cases hl
   | cons u us=>
     have h7:=hu 0 x u rfl rfl
     have tail:RrOk U base j w vw.rw (fS vw ss xs)->RdOk U j w vw.ld (uV ss xs)->lZ w ss (e'.D U) us:=fun a b=>
      ajq hv a b hfb h1 hin1 us (fun i x u hx hu'=>hu (i+1) x u (by simpa using hx) (by simpa using hu')) (by simpa using hl)
     unfold encV at h2
     split at h2
     ·rename_i ks cs
      have hrr':RrOk U base j w vw.rw (er cs++fS vw ss xs):=hrr
      have hcd:∀c∈cs,CK.any∈ks->∃v,c.den U j=some v:=fun c hc _=>by
       simp only[V.den,thm4] at h7
       obtain⟨vs,h8,_⟩:=h7
       obtain⟨i,hi⟩:=List.getElem?_of_mem hc
       obtain⟨v,_,hv⟩:=cH h8 i c hi
       exact⟨v,hv⟩
      obtain⟨vs,h3,h4⟩:=aao hv (hrr'.mono (fun x hx=>List.mem_append_left _ hx)) hcd h2
      simp only[V.den,h3,Option.map_some,bk] at h7
      exact⟨vs,us,_,by rw[h7],h4,tail (hrr'.mono (fun x hx=>List.mem_append_right _ hx)) hrd⟩
     ·rename_i ks ty id z e0
      have hrr':RrOk U base j w vw.rw (er [.ep id z e0 0]++fS vw ss xs):=hrr
      exact⟨_,us,_,rfl,au2 hv (hrr'.mono (fun x hx=>List.mem_append_left _ hx)) (hin2 id z e0 rfl) h2 h7,tail (hrr'.mono (fun x hx=>List.mem_append_right _ hx)) hrd⟩
     ·rename_i kc c _
      have hsl:∀x∈er [c]++fS vw ss xs,x∈fS vw (.one kc::ss) (.one c::xs):=by
       intro x hx
       cases c<;>exact hx
      have hrr':=hrr.mono hsl
      obtain⟨v,h3,h4⟩:=ajo hv (hrr'.mono (fun x hx=>List.mem_append_left _ hx)) (fun _=>⟨u,h7⟩) h2
      have h7':c.den U j=some u:=h7
      rw[h3] at h7'
      cases h7'
      have hrd':RdOk U j w vw.ld (uV ss xs):=by
       intro p hp
       refine hrd p ?_
       cases c<;>exact hp
      exact⟨_,us,_,rfl,h4,tail (hrr'.mono (fun x hx=>List.mem_append_right _ hx)) hrd'⟩
     ·rename_i ks b
      split at h2
      ·rename_i hpos
       rw[bS] at h2
       obtain⟨cs,hcs,h2⟩:=h2
       have hrr':RrOk U base j w vw.rw (er cs++fS vw ss xs):=by
        have:fS vw (.ptr ks::ss) (.one (.ptr b 0)::xs)=er cs++fS vw ss xs:=by simp only[fS,hcs]
        rw[<-this];exact hrr
       have hrd1:RdOk U j w vw.ld (dk b 0 ks.length):=fun p hp=>hrd p (List.mem_append_left _ hp)
       have hrd2:RdOk U j w vw.ld (uV ss xs):=fun p hp=>hrd p (List.mem_append_right _ hp)
       obtain⟨kk,hk,rfl⟩:=ly h7
       have hcd:∀c∈cs,CK.any∈ks->∃v,c.den U j=some v:=fun c hc _=>by
        obtain⟨_,vs,h8,_⟩:=qT (U:=U) (w:=w) hk (vw.rowok _ _ _ _ hcs) hrd1
        obtain⟨i,hi⟩:=List.getElem?_of_mem hc
        obtain⟨v,_,hv⟩:=cH h8 i c hi
        exact⟨v,hv⟩
       obtain⟨vs,h3,h4⟩:=aao hv (hrr'.mono (fun x hx=>List.mem_append_left _ hx)) hcd h2
       obtain⟨hlen,hget⟩:=iB _ _ _ (vw.rowok _ _ _ _ hcs)
       have mem:∀(n o m:Nat),m<n->(b,o+m)∈dk b o n:=by
        intro n
        induction n with
        | zero=>intro o m hm;omega
        | succ n ih=>
          intro o m hm
          cases m with
          | zero=>simp[dk]
          | succ m=>simp only[dk,List.mem_cons];right;rw[show o+(m+1)=o+1+m by omega];exact ih (o+1) m (by omega)
       have cell:∀o u,vs[o]? =some u->w.cell? ⟨kk,o,none⟩=some u:=by
        intro o u hou
        have hlt:o<cs.length:=by rw[<-aM h3];exact(cf.1 hou).1
        have hc:=thm6 hlt
        have hld:=hget o _ hc
        obtain⟨k',v,g1,g2,g3⟩:=hrd1 (b,0+o) (mem _ 0 o (by omega)) _ hld
        simp only at g1 g3
        rw[hk] at g1;cases g1
        obtain⟨u',hu',hd'⟩:=cH h3 o _ hc
        rw[hou] at hu';cases hu'
        rw[g2] at hd';cases hd'
        rw[bt] at g3
        exact g3
       have hlt:kk<w.heap.size:=by
        have h0:0<vs.length:=by rw[aM h3];omega
        exact World.block_lt_of_cell? w ⟨kk,0,none⟩ (cell 0 vs[0] (thm6 h0))
       exact⟨kk,vs,us,_,rfl,h4,hlt,cell,tail (hrr'.mono (fun x hx=>List.mem_append_right _ hx)) hrd2⟩
      ·cases h2
     ·rename_i ks b
      rw[bS] at h2
      obtain⟨cs,hcs,h2⟩:=h2
      have hrr':RrOk U base j w vw.rw (er cs++fS vw ss xs):=by
       have:fS vw (.ptr ks::ss) (.one (.fp b 0)::xs)=er cs++fS vw ss xs:=by simp only[fS,hcs]
       rw[<-this];exact hrr
      split at h2
      rotate_left
      ·cases h2
      rename_i hsol
      obtain⟨kk,hk,rfl⟩:=aje h7
      obtain⟨k',vs',g1,g2,g3,g4⟩:=hfb.2 b cs hcs
      have hcd:∀c∈cs,CK.any∈ks->∃v,c.den U j=some v:=fun c hc _=>by
       obtain⟨i,hi⟩:=List.getElem?_of_mem hc
       obtain⟨v,_,hv⟩:=cH g3 i c hi
       exact⟨v,hv⟩
      obtain⟨vs,h3,h4⟩:=aao hv (hrr'.mono (fun x hx=>List.mem_append_left _ hx)) hcd h2
      rw[hk] at g1;cases g1
      rw[h3] at g3;cases g3
      exact⟨kk,_,us,_,rfl,h4,g2,fun o u hu=>g4 o u hu (by
       have hlt:o<cs.length:=by rw[<-aM h3];exact(cf.1 hu).1
       unfold gW
       rw[cW,thm6 hlt]
       exact thm7.1 hsol _ (List.getElem_mem _)),tail (hrr'.mono (fun x hx=>List.mem_append_right _ hx)) hrd⟩
     ·cases h2
theorem jr (v0:Nat):∀(ks:List CK) (n:Nat),(aV v0 n ks).length=(ks.filter CK.isSl).length
 | [],_=>rfl
 | k::ks,n=>by
   have ih:=jr v0 ks (n+1)
   cases k<;>simp[aV,CK.isSl,List.filter_cons,ih]
theorem jR (v0:Nat):∀(ks:List CK) (n i:Nat) (r:RowOb),(aV v0 n ks)[i]? =some r->r.own=true
 | [],_,i,r,h=>by simp[aV] at h
 | k::ks,n,i,r,h=>by
   cases k with
   | sl a b=>
     cases i with
     | zero=>simp[aV] at h;rw[<-h]
     | succ i=>exact jR v0 ks (n+1) i r (by simpa[aV] using h)
   | _=>exact jR v0 ks (n+1) i r h
theorem mw (v0:Nat):∀(ks:List CK) (n i:Nat) (r:RowOb),(aV v0 n ks)[i]? =some r->r.kd=kdOf r.ks
 | [],_,i,r,h=>by simp[aV] at h
 | k::ks,n,i,r,h=>by
   cases k with
   | sl a b=>
     cases i with
     | zero=>simp[aV] at h;rw[<-h]
     | succ i=>exact mw v0 ks (n+1) i r (by simpa[aV] using h)
   | _=>exact mw v0 ks (n+1) i r h
theorem afT (hS:∀s∈cx.sm,SmOk P sp s) (hkeys:∀s∈cx.sm,∀s'∈cx.sm,s.key=s'.key->s=s') {c:Call} {kw:Kw} (hop:o.op=.call c) {f:Operand} (hc:c.callee=.value f) {g:Nat} (hf:vw.ev f=some (.one (.fn g))) {args:List V} (hl:evL vw.ev c.args.toList=some args)
  (hinA:(inA vw args).B U=true) (h:(ajD cx vw g args kw k).holds sp G U I) (hg:Good sp cx.sm U kw):Sound P sp U G I base cx vw o k kw:=by
 unfold ajD at h
 split at h
 ·exact h.elim
 ·rename_i s e hfind
  obtain⟨hs,hsf,henc⟩:=pW hfind
  have ok:=hS s hs
  split at h
  ·rename_i ks ty hin
   split at h
   ·rename_i _ id
    split at h
    ·rename_i r hsw
     split at h
     ·rename_i hck
      simp only[thm0] at hck
      obtain⟨hown,hks,hty⟩:=hck
      replace hks:=bV hks
      replace hty:=thm1 hty
      obtain⟨hpre,heq,h⟩:=h
      obtain⟨L',hF,hrows,hrun⟩:=ok.inpl ks ty hin (r.l.R U) hpre
      have heq':U.l kw.vk.length=L':=by
       have:eqs U (sp.F s.key [.l (r.l.R U)]) kw.vk.length 0 [.sl ks ty]:=heq
       rw[hF] at this
       exact this.1
      refine⟨_,_,h,⟨hg.pc,?_,hg.log⟩,⟨rfl,by simp⟩,fun j a w hb hev hrd hwr hrr hfb K Q hK=> ?_⟩
      ·refine⟨fun n k hn=> ?_,fun n k hn=> ?_⟩
       ·rcases aX n kw.vk.length with h1 | h1
        ·rw[thm8 h1] at hn;exact hg.vk.i n k hn
        ·rw[thm9 h1] at hn
         cases hd:n-kw.vk.length with
         | zero=>rw[hd] at hn;simp at hn
         | succ m=>rw[hd] at hn;simp at hn
       ·rcases aX n kw.vk.length with h1 | h1
        ·rw[thm8 h1] at hn;exact hg.vk.l n k hn
        ·rw[thm9 h1] at hn
         cases hd:n-kw.vk.length with
         | zero=>
           rw[hd] at hn
           simp only[bT,bk,VK.list.injEq] at hn
           obtain rfl:n=kw.vk.length:=by omega
           rw[heq',<-hn];exact hrows
         | succ m=>rw[hd] at hn;simp at hn
      ·obtain⟨hrw,hkd⟩:=Vw.sw_some hsw
       obtain⟨sv,hsv,hrow⟩:=hrr id bD r hrw
       have hso:SlOk U base w sv r:=by
        rcases hrow.1.cases with⟨_,h1⟩ | ⟨h1,_⟩ | ⟨h1,_⟩
        ·exact h1
        ·rw[hkd] at h1;cases h1
        ·rw[hkd] at h1;cases h1
       have hor:OwnRow w base ty ks sv (r.l.R U):=by
        rw[<-hks,<-hty]
        exact⟨hso.n,hso.own hown,hso.rows,hso.pos⟩
       obtain⟨hent,hcalls⟩:=hrun base sv w hor
       obtain⟨h1,h2⟩:=iK (j:=j) (a:=a) hl (fun x hx=>hev x (by simp[hop,Op.operands,Call.operands];exact .inr (by simpa using hx)))
       have h4:=hev f (by simp[hop,Op.operands,Call.operands,hc]) _ hf
       have h5:a.eval f=.func (.func g) #[] #[]:=(Option.some.inj h4).symm
       have h7:c.args.map a.eval = #[sv.v]:=by
        have e2:c.args.toList.map a.eval=[sv.v]:=by
         match hm:c.args.toList.map a.eval,h2 with
         | [y],_=>
           have hd':(j.s id).map SV.v=some y:=h1 0 _ y rfl (by rw[hm];rfl)
           rw[hsv] at hd'
           rw[Option.some.inj hd'.symm]
        have e3:c.args.map a.eval=(c.args.toList.map a.eval).toArray:=by rw[<-ef]
        rw[e3,e2]
       have h6:(execOp a.eval o).run P w=(callFunc s.f #[sv.v]).run P w:=by
        rw[hsf]
        simp only[execOp,hop,resolve,hc,h5,h7,Deferred.ofValue,Sem.run_bind,Sem.run_pure,Result.andThen_ok,invoke,Array.empty_append,Array.append_empty]
       unfold Oper.wp
       rw[h6,hent]
       show Calls P s.f _ w _
       refine hcalls.mono ?_
       rintro e' w' ⟨rfl,ho,hgr⟩
       refine hK (.tuple #[]) j w' rfl ⟨rfl,sv,hsv,hgr,RowOk.mk_own (r:={r with l:=.lw kw.vk.length}) hkd ?_ ?_ ?_ ?_,fun e=>by rw[show r.kd=.sl from hkd] at e;cases e⟩
       ·show sv.n=(U.l kw.vk.length).length
        rw[heq'];exact ho.n
       ·show RowsIn r.ks (U.l kw.vk.length)
        rw[heq',hks];exact ho.rows
       ·exact hso.pos
       ·show w'.ownsRow base r.ty r.ks.length sv.v sv.n (flat r.ks (U.l kw.vk.length))
        rw[heq',hks,hty];exact ho.own
     ·exact h.elim
    ·exact h.elim
   ·exact h.elim
  rename_i hin
  have main:∀v0 kw',KwGe kw' kw->sp.pre s.key (e.D U)->eqs U (sp.F s.key (e.D U)) v0 0 s.ks->(k {val:=resV s v0 vw.nid,rd:=uV s.args args,rr:=fS vw s.args args,re:=.mk (aV v0 0 s.ks)} kw').holds sp G U I->Good sp cx.sm U kw'->Sound P sp U G I base cx vw o k kw:=by
   intro v0 kw' hlv hpre heq hh hg'
   refine⟨_,kw',hh,hg',hlv,fun j a w hb hev hrd hwr hrr hfb K Q hK=> ?_⟩
   obtain⟨h1,h2⟩:=iK (j:=j) (a:=a) hl (fun x hx=>hev x (by simp[hop,Op.operands,Call.operands];exact .inr (by simpa using hx)))
   have h3:=ajq hg.vk hrr hrd hfb henc hinA _ h1 h2
   have h4:=hev f (by simp[hop,Op.operands,Call.operands,hc]) _ hf
   have h5:a.eval f=.func (.func g) #[] #[]:=(Option.some.inj h4).symm
   have h7:c.args.map a.eval=(c.args.toList.map a.eval).toArray:=by rw[<-ef]
   have h6:(execOp a.eval o).run P w=(callFunc s.f (c.args.toList.map a.eval).toArray).run P w:=by
    rw[hsf,<-h7]
    simp only[execOp,hop,resolve,hc,h5,Deferred.ofValue,Sem.run_bind,Sem.run_pure,Result.andThen_ok,invoke,Array.empty_append,Array.append_empty]
   have fin:∀v w',RetOk s.res s.tup w w' (sp.F s.key (e.D U)) v->K (a.put o.dst v) w':=by
    intro v w' hkk
    obtain⟨hx,_,svs,hsl,hden,hrows,hdis,hzz⟩:=hkk
    refine hK v ((j.putL vw.nid svs).addzs (svs.flatMap (·.z))) w' (hden U v0 vw.nid _ heq (fun i u hu=> ?_)) ⟨hx,svs,by rw[hsl,jr];rfl,fun i u r hu hr=> ?_,hdis,hzz,rfl⟩
    ·rw[asE];simp[J.putL,hu]
    ·exact⟨hrows U v0 heq i u r hu hr,jR v0 _ _ _ _ hr,fun h=>absurd ((mw v0 _ _ _ _ hr).symm.trans h) aab⟩
   rcases ok.calls hin _ _ w h3 hpre hfb.1 with⟨v,w',hr,hkk⟩ | ⟨hent,hcalls⟩
   ·rw[hr] at h6
    exact ek h6 (fin v w' hkk)
   ·unfold Oper.wp
    rw[h6,hent]
    show Calls P s.f _ w _
    refine hcalls.mono ?_
    rintro e' w' ⟨v,rfl,hkk⟩
    exact fin v w' hkk
  split at h
  ·rename_i v0 hlog
   obtain⟨s',hs',hk',hpre,heq⟩:=hg.log _ (rv hlog)
   have:=hkeys s' hs' s hs hk'
   subst this
   exact main v0 kw (.refl _) hpre heq h hg
  ·obtain⟨hpre,heq,h⟩:=h
   refine main kw.vk.length {kw with log:=(s.key,e,kw.vk.length)::kw.log,vk:=kw.vk++s.ks.map yl} ⟨rfl,by simp⟩ hpre heq h ⟨hg.pc,?_,?_⟩
   ·exact avm hg.vk (ok.rng _ (ajr hg.vk henc) hpre U _ heq)
   ·intro p hp
    rcases List.mem_cons.1 hp with rfl | hp
    ·exact⟨s,hs,rfl,hpre,heq⟩
    ·exact hg.log p hp
theorem akH (hS:∀s∈cx.sm,SmOk P sp s) (hkeys:∀s∈cx.sm,∀s'∈cx.sm,s.key=s'.key->s=s') {c:Call} {kw:Kw} (hop:o.op=.call c) {f:Operand} (hc:c.callee=.value f) {g:Nat} (hf:vw.ev f=some (.one (.fn g))) {args:List V} (hl:evL vw.ev c.args.toList=some args)
  (h:(asu cx vw g args kw k).holds sp G U I) (hg:Good sp cx.sm U kw):Sound P sp U G I base cx vw o k kw:=by
 unfold asu at h
 obtain⟨kw',h1,g1,_,l1⟩:=ba _ _ _ h hg
 split at h1
 ·rename_i hin
  refine Sound.lv ?_ l1
  unfold aow at h1
  split at h1
  ·exact afT hS hkeys hop hc hf hl hin h1 g1
  ·exact h1.elim
 ·exact h1.elim
theorem akE {c x y:Operand} {kw:Kw} (hop:o.op=.pick c x y) {e:E} {u v:V} (hc:vw.ev c=some (.one (.bool e))) (hx:vw.ev x=some u) (hy:vw.ev y=some v)
  (h:(decK e (fun b kw=>k {val:=if b then u else v} kw) kw).holds sp G U I) (hg:Good sp cx.sm U kw):Sound P sp U G I base cx vw o k kw:=by
 obtain⟨kw',h1,g1,_,l1⟩:=ba _ _ _ h hg
 refine⟨_,kw',h1,g1,l1,OpOk.pure fun j a w _ hev _ _ _=>⟨if e.B U then a.eval x else a.eval y,?_,?_⟩⟩
 ·have h2:=hev x (by simp[hop,Op.operands]) _ hx
  have h3:=hev y (by simp[hop,Op.operands]) _ hy
  cases e.B U
  ·exact h3
  ·exact h2
 ·have h2:=iY (hev c (by simp[hop,Op.operands]) _ hc)
  simp[execOp,hop,h2,asBool,Sem.run_bind]
theorem pH (hT:∀t i,(t,i)∈cx.ty->TIok P t i):∀(fs:List Field) (l pl:List (Nat×Nat)),fs.map (fun f=>(f.offset,f.type))=l->nF cx.ty l=some pl->∀w,(fs.mapM (m:=Sem) fun f=>do pure (f.offset,<-sizeOf f.type)).run P w=.ok pl w
 | [],l,pl,hl,h,w=>by subst hl;cases h;simp
 | f::fs,l,pl,hl,h,w=>by
   subst hl
   simp only[List.map_cons,nF] at h
   split at h
   ·rename_i i r hi hr
    cases h
    have:=(hT _ _ (ao hi)).size
    rw[List.mapM_cons]
    simp only[Sem.run_bind,this,Result.andThen_ok,Sem.run_pure]
    rw[pH hT fs _ r rfl hr w]
    simp
   ·cases h
theorem afU (hT:∀t i,(t,i)∈cx.ty->TIok P t i) {t:Nat} {ps:Array (Nat×Operand)} {kw:Kw} (hop:o.op=.build t ps) {parts:List (Nat×V)} (hps:evP vw.ev ps.toList=some parts) {v:V} (hv:ajG cx t parts=some v)
  (h:(k {val:=v} kw).holds sp G U I) (hg:Good sp cx.sm U kw):Sound P sp U G I base cx vw o k kw:=by
 refine⟨_,kw,h,hg,.refl _,OpOk.pure fun j a w _ hev _ _ _=> ?_⟩
 obtain⟨h1,h2⟩:=ajk (a:=a) (j:=j) hps (fun x hx=>hev x (by
  simp only[hop,Op.operands]
  simpa using hx))
 have h3:(ps.map fun p=>(p.1,a.eval p.2)).toList=ps.toList.map fun p=>(p.1,a.eval p.2):=Array.toList_map ..
 have hx:execOp a.eval o=(do let v <-Instr.build t (ps.map fun p=>(p.1,a.eval p.2));pure (.value v)):=by simp only[execOp,hop]
 unfold ajG at hv
 split at hv
 ·rename_i i hi
  have ht:=hT _ _ (ao hi)
  obtain⟨z,hz,hzd⟩:=ht.zero
  split at hv
  ·rename_i n et ha
   split at hv
   ·rename_i ie hie
    rw[thm4] at hv
    obtain⟨cs,hcs,rfl⟩:=hv
    obtain⟨cells,h4,h5⟩:=uK (j:=j) parts _ cs _ z.cells hcs (hzd U j) h1 h2
    refine⟨.agg cells,by simp[V.den,h5],?_⟩
    have hs:=(hT _ _ (ao hie)).size
    rw[hx]
    simp[Instr.build,Sem.run_bind,hz,run_underlying (ht.arr n et ha),hs,h3,h4]
   ·cases hv
  ·rename_i ha
   split at hv
   ·rename_i hagg
    split at hv
    ·rename_i pl hpl
     rw[thm4] at hv
     obtain⟨cs,hcs,rfl⟩:=hv
     obtain⟨cells,h4,h5⟩:=uK (j:=j) parts _ cs _ z.cells hcs (hzd U j) h1 h2
     refine⟨.agg cells,by simp[V.den,h5],?_⟩
     obtain⟨fs,hfs,hfl⟩:=ht.str hagg ha
     have hm:=pH hT fs.toList i.fields pl hfl hpl w
     have hm':(fs.mapM (m:=Sem) fun f=>do pure (f.offset,<-sizeOf f.type)).run P w=.ok pl.toArray w:=by
      rw[Array.mapM_eq_mapM_toList]
      rw[show(Functor.map List.toArray (List.mapM (fun f=>(do pure (f.offset,<-sizeOf f.type):Sem (Nat×Nat))) fs.toList):Sem (Array (Nat×Nat)))=(do let l <-List.mapM (fun f=>(do pure (f.offset,<-sizeOf f.type):Sem (Nat×Nat))) fs.toList;pure l.toArray) from rfl]
      rw[Sem.run_bind,hm]
      rfl
     have h6:(fun m:Nat=>pl.toArray[m]?)=fun m:Nat=>pl[m]? :=by funext m;simp
     rw[hx]
     simp only[Instr.build,Sem.run_bind,hz,run_underlying hfs,Result.andThen_ok,hm',h3,h6,h4,Sem.run_pure]
    ·cases hv
   ·cases hv
 ·cases hv
theorem aup (hT:∀t i,(t,i)∈cx.ty->TIok P t i) (hS:∀s∈cx.sm,SmOk P sp s) (hkeys:∀s∈cx.sm,∀s'∈cx.sm,s.key=s'.key->s=s') {kw:Kw} (h:(opK cx vw o.op kw k).holds sp G U I) (hg:Good sp cx.sm U kw):Sound P sp U G I base cx vw o k kw:=by
 cases hop:o.op<;>rw[hop] at h<;>simp only[opK] at h
 case move x=>
  split at h
  ·rename_i v hv;exact aaZ (.inl hop) hv h hg
  ·exact h.elim
 case assign x=>
  split at h
  ·rename_i v hv;exact aaZ (.inr hop) hv h hg
  ·exact h.elim
 case alloc t=>
  split at h
  ·rename_i i hi;exact afV hT hop hi h hg
  ·exact h.elim
 case box t x=>
  split at h
  ·rename_i v hv
   split at h
   ·rename_i hf;exact apO hop hv hf h hg
   ·exact h.elim
  ·exact h.elim
 case load t x=>
  split at h
  ·rename_i b off i hx hi
   split at h
   ·rename_i hagg
    split at h
    ·rename_i cs hcs;exact vZ hT hop hx hi hagg (vw.rowok _ _ _ _ hcs) h hg
    ·exact h.elim
   ·rename_i hagg
    split at h
    ·rename_i c hc;exact wc hT hop hx hi hagg hc h hg
    ·exact h.elim
  ·rename_i b off i hx hi
   split at h
   ·rename_i hagg
    split at h
    ·rename_i cs hcs
     rw[bS] at hcs
     obtain⟨c0,hc0,hcs⟩:=hcs
     split at h
     ·rename_i hsol
      exact sq hT hop hx hi hagg (by have:=af0 (ld:=fun b o=>(vw.fb b).bind (·[o]?)) (b:=b) (k:=0) hcs (fun i=>by simp[hc0]);rwa [bt] at this) hsol h hg
     ·exact h.elim
    ·exact h.elim
   ·rename_i hagg
    split at h
    ·rename_i c hc
     split at h
     ·rename_i hsol;exact sr hT hop hx hi hagg hc hsol h hg
     ·exact h.elim
    ·exact h.elim
  ·rename_i b o0 n sz e off i hx hi
   split at h
   ·rename_i cs hcs
    split at h
    ·rename_i hq;exact afL hT hop hx hi hcs (thm3 hq) h hg
    ·exact h.elim
   ·exact h.elim
  ·rename_i id esz e off i hx hi
   split at h
   ·rename_i r hr
    split at h
    ·rename_i hq
     simp only[thm0,aZ] at hq
     exact afM hT hop hx hi hr (thm1 hq.1) hq.2 h hg
    ·exact h.elim
   ·exact h.elim
  ·exact h.elim
 case store t x y=>
  split at h
  ·rename_i b off v i hx hy hi
   split at h
   ·rename_i hq
    simp only[thm0] at hq
    exact afJ hT hop hx hy hi hq.1 hq.2.1 hq.2.2 h hg
   ·exact h.elim
  ·rename_i b o0 n sz e off v i hx hy hi
   split at h
   ·rename_i cs hcs
    split at h
    ·rename_i hq
     simp only[thm0,aZ] at hq
     exact ac5 hT hop hx hy hi hcs hq.1 (thm1 hq.2.1) hq.2.2.1 (thm1 hq.2.2.2) h hg
    ·exact h.elim
   ·exact h.elim
  ·rename_i id esz e off v i hx hy hi
   split at h
   ·rename_i r hr
    split at h
    ·rename_i hq
     simp only[thm0,aZ] at hq
     exact ac6 hT hop hx hy hi hr hq.1 (thm1 hq.2.1) hq.2.2.1 (thm1 hq.2.2.2.1) hq.2.2.2.2 h hg
    ·exact h.elim
   ·exact h.elim
  ·exact h.elim
 case nilCheck x=>
  split at h
  ·rename_i b off hx;exact eY hop hx (.inl (.inl ⟨b,off,rfl⟩)) h hg
  ·rename_i b off hx;exact eY hop hx (.inl (.inr (.inl ⟨b,off,rfl⟩))) h hg
  ·rename_i b o0 n sz e off hx;exact sk hop hx h hg
  ·rename_i g hx;exact eY hop hx (.inr ⟨g,rfl⟩) h hg
  ·rename_i id esz e off hx;exact eY hop hx (.inl (.inr (.inr ⟨id,esz,e,off,rfl⟩))) h hg
  ·rename_i g fs ps hx;exact so hop hx h hg
  ·exact h.elim
  ·exact h.elim
 case binOp op xt x y yt=>
  split at h
  ·rename_i v u hx hy;exact apP hT hop hx hy h hg
  ·exact h.elim
 case unOp op t x=>
  split at h
  ·rename_i e hx;exact afI hop hx h hg
  ·rename_i kd e hx;exact afI hop hx h hg
  ·rename_i kd e hx;exact afI hop hx h hg
  ·exact h.elim
 case convert s d x=>
  split at h
  ·rename_i k0 e i is hx hi his
   split at h
   ·rename_i kd hk;exact akG hT hop hx hi his hk h hg
   ·exact h.elim
  ·exact h.elim
 case fieldAddr s x f=>
  split at h
  ·rename_i b off i hx hi
   split at h
   ·rename_i fo ft hf;exact dV hT hop hx hi hf (fun j v hv=>xL hv) h hg
   ·exact h.elim
  ·rename_i b off i hx hi
   split at h
   ·rename_i fo ft hf;exact dV hT hop hx hi hf (fun j v hv=>amz hv) h hg
   ·exact h.elim
  ·rename_i b o0 n sz e off i hx hi
   split at h
   ·rename_i fo ft hf;exact dV hT hop hx hi hf (fun j v hv=>ace hv) h hg
   ·exact h.elim
  ·rename_i id esz e off i hx hi
   split at h
   ·rename_i fo ft hf;exact dV hT hop hx hi hf (fun j v hv=>acf hv) h hg
   ·exact h.elim
  ·exact h.elim
 case field s x f=>
  split at h
  ·rename_i cs i hx hi
   split at h
   ·rename_i fo ft hf
    split at h
    ·rename_i v hv;exact afP hT hop hx hi hf hv h hg
    ·exact h.elim
   ·exact h.elim
  ·exact h.elim
 case indexAddr t x y=>
  split at h
  ·rename_i b off k0 e i hx hy hi
   split at h
   ·rename_i n et ha
    split at h
    ·rename_i ie hie
     split at h
     ·exact wd hT hop hx hy hi ha hie h hg
     ·exact ky hT hop hx hy hi ha hie (c':=fun m=>.ptr b (off+m*ie.size)) (fun m j v hv=>xL hv) h hg
    ·exact h.elim
   ·exact h.elim
  ·rename_i id esz e0 off k0 e i hx hy hi
   split at h
   ·rename_i n et ha
    split at h
    ·rename_i ie hie;exact ky hT hop hx hy hi ha hie (c':=fun m=>.ep id esz e0 (off+m*ie.size)) (fun m j v hv=>acf hv) h hg
    ·exact h.elim
   ·exact h.elim
  ·rename_i id k0 e i hx hy hi
   split at h
   ·rename_i et ha
    split at h
    ·rename_i ie r hie hr
     split at h
     ·rename_i hks;exact we hT hop hx hy hi ha hie hr (thm1 hks) h hg
     ·exact h.elim
    ·exact h.elim
   ·exact h.elim
  ·exact h.elim
  ·exact h.elim
 case index t x y=>
  split at h
  ·rename_i cs k0 e i hx hy hi
   split at h
   ·rename_i n et ha
    split at h
    ·rename_i ie hie;exact afO hT hop hx hy hi ha hie h hg
    ·exact h.elim
   ·exact h.elim
  ·exact h.elim
 case pick c x y=>
  split at h
  ·rename_i e u v hc hx hy;exact akE hop hc hx hy h hg
  ·exact h.elim
 case build t ps=>
  split at h
  ·rename_i parts hps
   split at h
   ·rename_i v hv;exact afU hT hop hps hv h hg
   ·exact h.elim
  ·exact h.elim
 case buildSlice t n ps=>
  split at h
  ·rename_i parts i hps hi
   split at h
   ·rename_i et ha
    split at h
    ·rename_i ie hie
     split at h
     ·rename_i ks cs hks hfill
      split at h
      ·rename_i l hl
       split at h
       ·rename_i hq
        simp only[thm0,aZ] at hq
        exact qt hT hop hps hi ha hie hfill hl ⟨hq.1,hq.2.1,thm1 hq.2.2⟩ h hg
       ·exact h.elim
      ·exact h.elim
     ·exact h.elim
    ·exact h.elim
   ·exact h.elim
  ·exact h.elim
 case makeSlice t x y=>
  first | exact h.elim | (cases mx<;>exact h.elim)
 case slice t x lo hi' mx=>
  first | exact h.elim | (cases mx<;>exact h.elim)
 case makeMap t rs=>
  cases rs with
  | some _=>exact h.elim
  | none=>
    exact h.elim
 case lookup t x y ok=>
  exact h.elim
 case mapUpdate t x y z=>
  exact h.elim
 case range t x=>
  exact h.elim
 case entry x=>
  exact h.elim
 case makeFunc fn fs ps=>
  split at h
  ·rename_i g x y hx hy;exact vY hop hx hy h hg
  ·exact h.elim
 case extract x n=>
  split at h
  ·rename_i vs hx
   split at h
   ·rename_i cs hp;exact oc hop hx hp (.inl ⟨cs,rfl,rfl⟩) h hg
   ·rename_i c hp;exact oc hop hx hp (.inr ⟨c,rfl,rfl⟩) h hg
   ·exact h.elim
  ·exact h.elim
 case call c=>
  split at h
  ·rename_i f hc
   split at h
   ·rename_i g args hf hl;exact akH hS hkeys hop hc hf hl h hg
   ·exact h.elim
  ·rename_i hc
   split at h
   ·rename_i id t hl hty
    split at h
    ·rename_i i r hi hr
     split at h
     ·rename_i hsl;exact apN hT hop hc hl hty hi hsl hr h hg
     ·exact h.elim
    ·exact h.elim
   ·rename_i t hl hty
    split at h
    ·rename_i i hi
     split at h
     ·rename_i hsl;exact akF hT hop hc hl hty hi hsl h hg
     ·exact h.elim
    ·exact h.elim
   ·exact h.elim
  ·rename_i hc
   split at h
   ·rename_i s id t t' hl hty
    split at h
    ·rename_i i r hi hr
     split at h
     ·rename_i et ha
      split at h
      ·rename_i ie hie
       split at h
       ·rename_i hq
        simp only[thm0,aZ] at hq
        have htt:=thm1 hq.1
        subst htt
        have hq':r.ty=et/\r.ks.length=ie.size/\0<ie.size/\ie.bytes<=65536:=⟨thm1 hq.2.1,thm1 hq.2.2.1,hq.2.2.2.1,hq.2.2.2.2⟩
        split at h
        ·exact yQ hT hop hc hl hty hi ha hie hr hq' h hg
        ·rename_i old
         split at h
         ·rename_i q hrq
          split at h
          ·rename_i hq2
           simp only[thm0] at hq2
           exact ada hT hop hc hl hty hi ha hie hr hrq hq' ⟨hq2.1,thm1 hq2.2.1,bV hq2.2.2.1⟩ h hg
          ·exact h.elim
         ·exact h.elim
        ·exact h.elim
       ·exact h.elim
      ·exact h.elim
     ·exact h.elim
    ·exact h.elim
   ·exact h.elim
  ·rename_i hc
   split at h
   ·rename_i k0 e l hl
    split at h
    ·rename_i e' he;exact anv false hop hc hl he h hg
    ·exact h.elim
   ·exact h.elim
  ·rename_i hc
   split at h
   ·rename_i k0 e l hl
    split at h
    ·rename_i e' he;exact anv true hop hc hl he h hg
    ·exact h.elim
   ·exact h.elim
  ·exact h.elim
 all_goals exact h.elim
end
def idxE (vw:Vw) (o:Option Operand) (d:E):Option E:=match o with
 | none=>some d
 | some y=>match vw.ev y with
   | some (.one (.int _ e))=>some e
   | _=>none
def ab2:C->C->Option Bool
 | .ptr _ _,.np | .fp _ _,.np | .np,.ptr _ _ | .np,.fp _ _ | .ep _ _ _ _,.np=>some false
 | .np,.np=>some true
 | _,_=>none
section
variable {P:Program} {sp:Spec} {U:Env} {G:Env->E->Prop} {I:Nat->List Dt->Prop} {base:Nat} {cx:Cx} {vw:Vw} {o:Oper} {k:Eff->Kw->Tr}
theorem ai5 {o1:Option Operand} {d e:E} (h:idxE vw o1 d=some e):(o1=none/\e=d)\/∃y kd,o1=some y/\vw.ev y=some (.one (.int kd e)):=by
 unfold idxE at h
 split at h
 ·cases h;exact .inl ⟨rfl,rfl⟩
 ·rename_i y
  split at h
  ·rename_i kd e' he;cases h;exact .inr ⟨y,kd,rfl,he⟩
  ·cases h
theorem ail {c d:C} {b:Bool} (h:ab2 c d=some b) {j:J} {x y:Value} (hx:(V.one c).den U j=some x) (hy:(V.one d).den U j=some y):∃p q,x=.pointer p/\y=.pointer q/\(p=none\/q=none)/\b=(p.isNone&&q.isNone):=by
 unfold ab2 at h
 split at h<;>cases h
 ·obtain⟨k,_,rfl⟩:=ly hx;cases hy;exact⟨_,_,rfl,rfl,.inr rfl,rfl⟩
 ·obtain⟨k,_,rfl⟩:=aje hx;cases hy;exact⟨_,_,rfl,rfl,.inr rfl,rfl⟩
 ·obtain⟨k,_,rfl⟩:=ly hy;cases hx;exact⟨_,_,rfl,rfl,.inl rfl,rfl⟩
 ·obtain⟨k,_,rfl⟩:=aje hy;cases hx;exact⟨_,_,rfl,rfl,.inl rfl,rfl⟩
 ·cases hy
  obtain⟨p,rfl⟩:=aik (.inr (.inr ⟨_,_,_,_,rfl⟩)) hx
  exact⟨_,_,rfl,rfl,.inr rfl,rfl⟩
 ·cases hx;cases hy;exact⟨_,_,rfl,rfl,.inl rfl,rfl⟩
theorem adk {t e:Nat} (hu:P.underlying t=some (.pointer e)) (p q:Option Addr) (h:p=none\/q=none) (w:World):(Op.equal t (.pointer p) (.pointer q)).run P w=.ok (p.isNone&&q.isNone) w:=by
 unfold Op.equal
 have key:∀d x y,(Op.equalIn (d+1) t x y).run P w=_:=fun d x y=>by rw[Op.equalIn,Sem.run_bind,run_underlying hu]
 rcases h with rfl | rfl
 ·refine(key 9999 _ _).trans ?_
  cases q<;>rfl
 ·refine(key 9999 _ _).trans ?_
  cases p<;>rfl
theorem afK (hT:∀t i,(t,i)∈cx.ty->TIok P t i) {op:BinOp} (hne:op=.eql\/op=.neq) {xt yt:Nat} {x y:Operand} {kw:Kw} (hop:o.op=.binOp op xt x y yt) {c d:C} (hx:vw.ev x=some (.one c)) (hy:vw.ev y=some (.one d)) {i:TI} (hi:az xt cx.ty=some i) (hk:i.kd=1) {b:Bool} (hb:ab2 c d=some b)
  (h:(k {val:=.one (.bool (.tt (if op=.eql then b else !b)))} kw).holds sp G U I) (hg:Good sp cx.sm U kw):Sound P sp U G I base cx vw o k kw:=by
 refine⟨_,kw,h,hg,.refl _,OpOk.pure fun j ac w _ hev _ _ _=>⟨.bool (if op=.eql then b else !b),by simp[V.den,C.den,E.B],?_⟩⟩
 obtain⟨e,hu⟩:=(hT _ _ (ao hi)).ptr hk
 obtain⟨p,q,h1,h2,h3,rfl⟩:=ail hb (hev x (by simp[hop,Op.operands]) _ hx) (hev y (by simp[hop,Op.operands]) _ hy)
 have h4:=adk hu p q h3 w
 rcases hne with rfl | rfl<;>simp[execOp,hop,h1,h2,eqGuard,binOp,h4,Sem.run_bind]
theorem afC:∀{a b:List (List Int)},(∀r∈a,aG [some .u8] r=true)->(∀r∈b,aG [some .u8] r=true)->nn a=nn b->a=b:=by
 have key:∀{a b:List (List Int)},(∀r∈a,aG [some .u8] r=true)->(∀r∈b,aG [some .u8] r=true)->(a.map fun r=>UInt8.ofNat (r.getD 0 0).toNat)=(b.map fun r=>UInt8.ofNat (r.getD 0 0).toNat)->a=b:=by
  intro a
  induction a with
  | nil=>intro b _ _ h;cases b with
    | nil=>rfl
    | cons=>simp at h
  | cons x a ih=>
    intro b ha hb h
    cases b with
    | nil=>simp at h
    | cons y b=>
      simp only[List.map_cons,thm5] at h
      have hx:=ha x bD
      have hy:=hb y bD
      have h1:=mV hx
      have h2:=mV hy
      have h3:=ih (fun r hr=>ha r (cm _ hr)) (fun r hr=>hb r (cm _ hr)) h.2
      match x,y,h1,h2 with
      | [u],[v],_,_=>
        have hu:inK .u8 u=true:=by simpa[aG,inCE] using hx
        have hv:inK .u8 v=true:=by simpa[aG,inCE] using hy
        rw[bz] at hu hv
        simp only[IntKind.min,IntKind.max,IntKind.signed,IntKind.bits] at hu hv
        simp at hu hv
        have h4:(UInt8.ofNat u.toNat).toNat=(UInt8.ofNat v.toNat).toNat:=by
         have:=h.1
         simp only[List.getD_cons_zero] at this
         rw[this]
        rw[UInt8.toNat_ofNat',UInt8.toNat_ofNat'] at h4
        have:u=v:=by omega
        rw[this,h3]
 intro a b ha hb h
 refine key ha hb ?_
 have:=congrArg (fun s:ByteArray=>s.data.toList) h
 simpa[nn] using this
theorem wg (hT:∀t i,(t,i)∈cx.ty->TIok P t i) {op:BinOp} (hne:op=.eql\/op=.neq) {xt yt:Nat} {x y:Operand} {kw:Kw} (hop:o.op=.binOp op xt x y yt) {a b:E} (hx:vw.ev x=some (.one (.str a))) (hy:vw.ev y=some (.one (.str b))) {i:TI} (hi:az xt cx.ty=some i) (hk:i.kd=2) (hla:a.lok kw.vk [some .u8]=true) (hlb:b.lok kw.vk [some .u8]=true)
  (h:(k {val:=.one (.bool (if op=.eql then .leq a b else gv (.leq a b)))} kw).holds sp G U I) (hg:Good sp cx.sm U kw):Sound P sp U G I base cx vw o k kw:=by
 have hu:=(hT _ _ (ao hi)).stg hk
 have heq:((nn (a.R U)).toList==(nn (b.R U)).toList)=(a.R U==b.R U):=by
  rw[aJ,db,db,ByteArray.toList_eq,ByteArray.toList_eq]
  refine⟨fun h=>afC (E.lok_ok hg.vk a hla) (E.lok_ok hg.vk b hlb) ?_,fun h=>by rw[h]⟩
  have h2:(nn (a.R U)).data=(nn (b.R U)).data:=Array.toList_inj.1 h
  cases h3:nn (a.R U)
  cases h4:nn (b.R U)
  rw[h3,h4] at h2
  simp only at h2
  rw[h2]
 refine⟨_,kw,h,hg,.refl _,OpOk.pure fun j ac w _ hev _ _ _=>⟨.bool (if op=.eql then(a.R U==b.R U) else !(a.R U==b.R U)),?_,?_⟩⟩
 ·rcases hne with rfl | rfl<;>simp[V.den,C.den,df,E.B]
 ·have h1:ac.eval x=.string (nn (a.R U)):=(Option.some.inj (hev x (by simp[hop,Op.operands]) _ hx)).symm
  have h2:ac.eval y=.string (nn (b.R U)):=(Option.some.inj (hev y (by simp[hop,Op.operands]) _ hy)).symm
  rcases hne with rfl | rfl<;>simp[execOp,hop,h1,h2,eqGuard,binOp,Op.stringOp,heq,Sem.run_bind]
end
section
variable {P:Program} {sp:Spec} {U:Env} {G:Env->E->Prop} {I:Nat->List Dt->Prop} {base:Nat} {cx:Cx} {vw:Vw} {o:Oper} {k:Eff->Kw->Tr}
theorem ac7 (hT:∀t i,(t,i)∈cx.ty->TIok P t i) {t:Nat} {x y:Operand} {kw:Kw} (hop:o.op=.index t x y) {cs:List C} (hx:vw.ev x=some (.agg cs)) {k0:IntKind} {e:E} (hy:vw.ev y=some (.one (.int k0 e))) {i:TI} (hi:az t cx.ty=some i)
  {n et:Nat} (ha:i.arr=some (n,et)) {ie:TI} (hie:az et cx.ty=some ie) (hlen:cs.length=n*ie.size) (h:(decK (inR e n) (fun ok kw=>if ok then(match aat e n ie.size cs 0 ie.size with
    | some ds=>if ie.agg then k {val:=.agg ds} kw else(match ds with
      | [d]=>k {val:=.one d} kw
      | _=>.stuck 195)
    | none=>.stuck 196) else .panic) kw).holds sp G U I) (hg:Good sp cx.sm U kw):Sound P sp U G I base cx vw o k kw:=by
 obtain⟨kw1,g1,q1,_,l1⟩:=ba _ _ _ h hg
 rw[ai3] at g1
 split at g1
 ·rename_i hr
  rw[thm0,aZ,aZ] at hr
  have hu:=(hT _ _ (ao hi)).arr n et ha
  have ht:=hT _ _ (ao hie)
  split at g1
  ·rename_i ds hds
   have key:∀{j:J} {a:Act} (w:World),(∀x∈o.op.operands.toList,∀v,vw.ev x=some v->v.den U j=some (a.eval x))->∃vs:List Value,denL U j ds=some ((vs.drop ((e.I U).toNat*ie.size+0)).take ie.size)/\ds.length=ie.size/\(execOp a.eval o).run P w=((part et vs.toArray ((e.I U).toNat*ie.size)).run P w).andThen fun v w=>.ok (.value v) w:=by
    intro j a w hev
    have hd:=hev x (by simp[hop,Op.operands]) _ hx
    simp only[V.den,thm4] at hd
    obtain⟨vs,hvs,hp⟩:=hd
    have hq:=cP (hev y (by simp[hop,Op.operands]) _ hy)
    obtain⟨e1,e2⟩:=uO hvs hr.1 hr.2 ie.size 0 ds hds
    refine⟨vs,e2,e1,?_⟩
    simp[execOp,hop,<-hp,hq,Instr.index,run_underlying hu,asIntOf,hr,ht.size,Sem.run_bind]
   split at g1
   ·rename_i hagg
    refine⟨_,kw1,g1,q1,l1,OpOk.pure fun j a w _ hev _ _ _=> ?_⟩
    obtain⟨vs,h1,h2,h3⟩:=key (j:=j) (a:=a) w hev
    refine⟨.agg ((vs.drop ((e.I U).toNat*ie.size+0)).take ie.size).toArray,by simp only[V.den,h1,Option.map_some],?_⟩
    rw[h3]
    have h4:vs.toArray.extract ((e.I U).toNat*ie.size) ((e.I U).toNat*ie.size+ie.size)=((vs.drop ((e.I U).toNat*ie.size+0)).take ie.size).toArray:=by
     simp[List.extract_eq_take_drop]
    simp only[part,Sem.run_bind,ht.agg,hagg,Result.andThen_ok,if_true,ht.size,h4,Sem.run_pure]
   ·rename_i hagg
    split at g1
    ·rename_i d
     refine⟨_,kw1,g1,q1,l1,OpOk.pure fun j a w _ hev _ _ _=> ?_⟩
     obtain⟨vs,h1,h2,h3⟩:=key (j:=j) (a:=a) w hev
     simp only[denL] at h1
     cases hdd:d.den U j with
     | none=>rw[hdd] at h1;cases h1
     | some v=>
       rw[hdd,bk] at h1
       refine⟨v,hdd,?_⟩
       have hz:ie.size=1:=h2.symm
       have h4:vs[(e.I U).toNat*ie.size]? =some v:=by
        have:=congrArg (fun l=>l[0]?) h1
        simp only[bT,List.getElem?_take,hz,List.getElem?_drop,Nat.add_zero] at this
        rw[if_pos (by omega)] at this
        rw[hz];exact this.symm
       have h5:vs.toArray[(e.I U).toNat*ie.size]? =some v:=by simpa using h4
       have hagg':ie.agg=false:=by simpa using hagg
       rw[h3]
       simp only[part,Sem.run_bind,ht.agg,hagg',Result.andThen_ok,h5]
       simp
    ·exact g1.elim
  ·exact g1.elim
 ·exact g1.elim
def opX (cx:Cx) (vw:Vw) (op:Op) (kw:Kw) (k:Eff->Kw->Tr):Option Tr:=match op with
 | .binOp op xt x y _=>match vw.ev x,vw.ev y with
   | some (.one c),some (.one d)=>match az xt cx.ty with
     | some i=>
       if Nat.beq i.kd 1 then(match ab2 c d,op with
        | some b,.eql=>some (k {val:=.one (.bool (.tt b))} kw)
        | some b,.neq=>some (k {val:=.one (.bool (.tt (!b)))} kw)
        | _,_=>none)
       else if Nat.beq i.kd 2 then(match c,d with
        | .str a,.str b=>if a.lok kw.vk [some .u8]&&b.lok kw.vk [some .u8] then(match op with
          | .eql=>some (k {val:=.one (.bool (.leq a b))} kw)
          | .neq=>some (k {val:=.one (.bool (gv (.leq a b)))} kw)
          | _=>none) else none
        | _,_=>none)
       else none
     | none=>none
   | _,_=>none
 | .index t x y=>match vw.ev x,vw.ev y,az t cx.ty with
   | some (.agg cs),some (.one (.int _ e)),some i=>if apI cx &&!e.isLit then(match i.arr with
     | some (n,et)=>match az et cx.ty with
       | some ie=>if Nat.beq cs.length (n*ie.size) then some (decK (inR e n) (fun ok kw=>if ok then(match aat e n ie.size cs 0 ie.size with
        | some ds=>if ie.agg then k {val:=.agg ds} kw else(match ds with
          | [d]=>k {val:=.one d} kw
          | _=>.stuck 195)
        | none=>.stuck 196) else .panic) kw) else none
       | none=>none
     | none=>none) else none
   | _,_,_=>none
 | _=>none
theorem aun (hT:∀t i,(t,i)∈cx.ty->TIok P t i) {kw:Kw} {tr:Tr} (ht:opX cx vw o.op kw k=some tr) (h:tr.holds sp G U I) (hg:Good sp cx.sm U kw):Sound P sp U G I base cx vw o k kw:=by
 cases hop:o.op<;>rw[hop] at ht<;>simp only[opX] at ht
 case binOp op xt x y yt=>
  split at ht
  ·rename_i c d hx hy
   split at ht
   ·rename_i i hi
    split at ht
    ·rename_i hk
     split at ht
     ·rename_i b hb;cases ht;exact afK hT (.inl rfl) hop hx hy hi (thm1 hk) hb h hg
     ·rename_i b hb;cases ht;exact afK hT (.inr rfl) hop hx hy hi (thm1 hk) hb h hg
     ·cases ht
    ·split at ht
     ·rename_i hk
      split at ht
      ·rename_i a b
       split at ht
       ·rename_i hl
        rw[thm0] at hl
        split at ht
        ·cases ht;exact wg hT (.inl rfl) hop hx hy hi (thm1 hk) hl.1 hl.2 h hg
        ·cases ht;exact wg hT (.inr rfl) hop hx hy hi (thm1 hk) hl.1 hl.2 h hg
        ·cases ht
       ·cases ht
      ·cases ht
     ·cases ht
   ·cases ht
  ·cases ht
 case index t x y=>
  split at ht
  ·rename_i cs k0 e i hx hy hi
   split at ht
   ·split at ht
    ·rename_i n et ha
     split at ht
     ·rename_i ie hie
      split at ht
      ·rename_i hl
       cases ht
       exact ac7 hT hop hx hy hi ha hie (thm1 hl) h hg
      ·cases ht
     ·cases ht
    ·cases ht
   ·cases ht
  ·cases ht
 all_goals cases ht
end
theorem RdRow.kept {w w':World} {esz:Nat} {s:SV} {xs:List Value} (h:RdRow w esz s xs) (hb:∀k,s.blk false=some k->w'.heap[k]? =w.heap[k]?):RdRow w' esz s xs:=by
 obtain⟨h1,h2,h3,h4,h5⟩:=h
 refine⟨h1,h2,h3,h4,fun a ha i u hu=> ?_⟩
 have hc:s.c≠0:=fun hc=>by
  have hlt:=(cf.1 hu).1
  have:s.n=0:=by omega
  rw[h1,this] at hlt
  omega
 have:=h5 a ha i u hu
 have hblk:(a.add i).block=a.block:=by unfold Addr.add;split<;>rfl
 have he:w'.heap[(a.add i).block]? =w.heap[(a.add i).block]? :=by
  rw[hblk]
  exact hb a.block (yn hc (by simp[SV.v,ha,Value.ownBlock]))
 rw[World.cell?_of_block he];exact this
def Vw.evw (vw:Vw) (id:Nat):Option RowOb:=match vw.rw id with
 | some r=>if r.kd.isEv then some r else none
 | none=>none
theorem Vw.evw_some {vw:Vw} {id:Nat} {r:RowOb} (h:vw.evw id=some r):vw.rw id=some r/\r.kd=.ev:=by
 unfold Vw.evw at h
 split at h
 ·rename_i q hq
  split at h
  ·rename_i hk
   cases h
   exact⟨hq,RK.isEv_eq hk⟩
  ·cases h
 ·cases h
section
variable {P:Program} {sp:Spec} {U:Env} {G:Env->E->Prop} {I:Nat->List Dt->Prop} {base:Nat} {cx:Cx} {vw:Vw} {o:Oper} {k:Eff->Kw->Tr}
theorem RrOk.ev {j:J} {w:World} {rr:List Nat} (h:RrOk U base j w vw.rw rr) (id:Nat) (hid:id∈rr) (r:RowOb) (hr:vw.evw id=some r):∃s,j.s id=some s/\EvOk U base w s r/\Zin j s/\∀p∈s.z,w.heap[p.1]? =some p.2:=by
 obtain⟨h1,h2⟩:=Vw.evw_some hr
 obtain⟨s,h3,h4,h5⟩:=h id hid r h1
 exact⟨s,h3,h4.2.2 h2,h5.1,h5.2.1⟩
def cutB (n:Nat) (lo hi:E):E:=pN (gv (mkLt lo (.lit 0))) (pN (gv (mkLt hi lo)) (gv (mkLt (.lit n) hi)))
theorem au8 {n:Nat} {lo hi:E} (h:(cutB n lo hi).B U=true):0<=lo.I U/\lo.I U<=hi.I U/\hi.I U<=(n:Int):=by
 unfold cutB at h
 rw[fz,fz,thm0,thm0,df,df,df,ff,ff,ff,Bool.not_eq_true',Bool.not_eq_true',Bool.not_eq_true'] at h
 obtain⟨h1,h2,h3⟩:=h
 replace h1:¬lo.I U<0:=thm2 h1
 replace h2:=thm2 h2
 replace h3:¬(n:Int)<hi.I U:=thm2 h3
 exact⟨by omega,by omega,by omega⟩
theorem qu {w:World} {n l h:Nat} {low high:Option Value} (hl:(low=none/\l=0)\/∃kd:IntKind,low=some (.int kd (l:Int))) (hh:(high=none/\h=n)\/∃kd:IntKind,high=some (.int kd (h:Int))) (h1:l<=h) (h2:h<=n):(Instr.sliceBounds false n n low high none).run P w=.ok (l,h,n) w:=by
 have sb:∀(kd:IntKind) (m y:Nat) code,m<=y->(Instr.sliceBound (.int kd (m:Int)) y code).run P w=.ok m w:=fun kd m y code hmy=>by
  have h5:(m:Int)<=(y:Int):=by omega
  simp[Instr.sliceBound,asIntOf,Sem.run_bind,hmy]
 rcases hl with⟨rfl,rfl⟩ | ⟨kd,rfl⟩<;>rcases hh with⟨rfl,rfl⟩ | ⟨kd',rfl⟩
 ·simp[Instr.sliceBounds,Sem.run_bind]
 ·simp[Instr.sliceBounds,Sem.run_bind,sb kd' h n _ h2]
 ·simp[Instr.sliceBounds,Sem.run_bind,sb kd l _ _ h1]
 ·simp[Instr.sliceBounds,Sem.run_bind,sb kd l h _ h1,sb kd' h n _ h2]
theorem ac8 (hT:∀t i,(t,i)∈cx.ty->TIok P t i) {t:Nat} {x:Operand} {lo hi':Option Operand} {kw:Kw} (hop:o.op=.slice t x lo hi' none) {b off:Nat} (hx:vw.ev x=some (.one (.ptr b off))) {i:TI} (hi:az t cx.ty=some i) {n et:Nat} (ha:i.arr=some (n,et)) {ie:TI} (hie:az et cx.ty=some ie)
  {a c:E} (hlo:idxE vw lo (.lit 0)=some a) (hhi:idxE vw hi' (.lit n)=some c)
  (h:(decK (cutB n a c) (fun ok kw=>if ok then k {val:=.one (.aw b off n ie.size a c (.lit n))} kw else .panic) kw).holds sp G U I) (hg:Good sp cx.sm U kw):Sound P sp U G I base cx vw o k kw:=by
 obtain⟨kw1,h1,g1,_,l1⟩:=ba _ _ _ h hg
 split at h1
 ·rename_i hb
  obtain⟨b1,b2,b3⟩:=au8 hb
  refine⟨_,kw1,h1,g1,l1,OpOk.pure fun j ac w _ hev _ _ _=> ?_⟩
  obtain⟨kk,hk,hv⟩:=ly (hev x (by simp[hop,Op.operands]) _ hx)
  have hu:=(hT _ _ (ao hi)).arr _ _ ha
  have hsz:=(hT _ _ (ao hie)).size w
  have hl1:(lo.map ac.eval=none/\(a.I U).toNat=0)\/∃kd:IntKind,lo.map ac.eval=some (.int kd (((a.I U).toNat:Nat):Int)):=by
   rcases ai5 hlo with⟨rfl,rfl⟩ | ⟨y,kd,rfl,hy⟩
   ·exact .inl ⟨rfl,rfl⟩
   ·refine .inr ⟨kd,?_⟩
    rw[Option.map_some,cP (hev y (by simp[hop,Op.operands]) _ hy),Int.toNat_of_nonneg b1]
  have hh1:(hi'.map ac.eval=none/\(c.I U).toNat=n)\/∃kd:IntKind,hi'.map ac.eval=some (.int kd (((c.I U).toNat:Nat):Int)):=by
   rcases ai5 hhi with⟨rfl,rfl⟩ | ⟨y,kd,rfl,hy⟩
   ·exact .inl ⟨rfl,by simp[E.I]⟩
   ·refine .inr ⟨kd,?_⟩
    rw[Option.map_some,cP (hev y (by simp[hop,Op.operands]) _ hy),Int.toNat_of_nonneg (by omega)]
  refine⟨_,by simp only[V.den,C.den,hk,Option.map_some,E.I];rfl,?_⟩
  have b1':=qu (P:=P) (w:=w) hl1 hh1 (by omega) (by omega)
  have hrun:(Instr.sliceAt t (.pointer (some ⟨kk,off,none⟩)) (lo.map ac.eval) (hi'.map ac.eval) none).run P w=.ok ((⟨some ⟨kk,off,none⟩,n,n,[]⟩:SV).cut ie.size (a.I U).toNat (c.I U).toNat n).v w:=by
   simp only[Instr.sliceAt,Sem.run_bind,run_underlying hu,Result.andThen_ok,Instr.sureAddr,asAddr,Sem.run_pure,b1',hsz,SV.cut,SV.v]
   congr 2
   split<;>rfl
  have e3:Option.map ac.eval (none:Option Operand)=none:=rfl
  simp only[execOp,hop,hv,Sem.run_bind,e3,hrun,Result.andThen_ok,Sem.run_pure]
  rfl
 ·exact h1.elim
def opY (cx:Cx) (vw:Vw) (op:Op) (kw:Kw) (k:Eff->Kw->Tr):Option Tr:=match op with
 | .slice t x lo hi mx=>match vw.ev x,az t cx.ty,mx with
   | some (.one (.ptr b off)),some i,none=>match i.arr with
     | some (n,et)=>match az et cx.ty,idxE vw lo (.lit 0),idxE vw hi (.lit n) with
       | some ie,some a,some c=>if lo.isSome||hi.isSome then some (decK (cutB n a c) (fun ok kw=>if ok then k {val:=.one (.aw b off n ie.size a c (.lit n))} kw else .panic) kw) else none
       | _,_,_=>none
     | none=>none
   | _,_,_=>none
 | _=>none
theorem aum (hT:∀t i,(t,i)∈cx.ty->TIok P t i) {kw:Kw} {tr:Tr} (ht:opY cx vw o.op kw k=some tr) (h:tr.holds sp G U I) (hg:Good sp cx.sm U kw):Sound P sp U G I base cx vw o k kw:=by
 cases hop:o.op<;>rw[hop] at ht<;>simp only[opY] at ht
 case slice t x lo hi' mx=>
  split at ht
  ·rename_i b off i hx hi
   split at ht
   ·rename_i n et ha
    split at ht
    ·rename_i ie a c hie hlo hhi
     split at ht
     ·cases ht;exact ac8 hT hop hx hi ha hie hlo hhi h hg
     ·cases ht
    ·cases ht
   ·cases ht
  ·cases ht
 all_goals cases ht
def opKX (cx:Cx) (vw:Vw) (op:Op) (kw:Kw) (k:Eff->Kw->Tr):Tr:=match opY cx vw op kw k with
 | some t=>t
 | none=>match opX cx vw op kw k with
   | some t=>t
   | none=>opK cx vw op kw k
theorem arO (hT:∀t i,(t,i)∈cx.ty->TIok P t i) (hS:∀s∈cx.sm,SmOk P sp s) (hkeys:∀s∈cx.sm,∀s'∈cx.sm,s.key=s'.key->s=s') {kw:Kw} (h:(opKX cx vw o.op kw k).holds sp G U I) (hg:Good sp cx.sm U kw):Sound P sp U G I base cx vw o k kw:=by
 unfold opKX at h
 split at h
 ·rename_i t ht;exact aum hT ht h hg
 ·split at h
  ·rename_i t ht;exact aun hT ht h hg
  ·exact aup hT hS hkeys h hg
end
def apH (cx:Cx):Option (Nat×List CE×Nat):=match az 999995 cx.hints with
 | some [.tmpS t ks st]=>some (t,ks,st)
 | _=>none
def aac (cx:Cx) (t:Nat):Bool:=match az 999994 cx.hints with
 | some [.only l]=>l.any (Nat.beq t)
 | _=>false
def aiZ (cx:Cx) (t:Nat):Bool:=match az 999993 cx.hints with
 | some [.only l]=>l.any (Nat.beq t)
 | _=>false
def C.isZk (kd:IntKind):C->Bool
 | .int k (.lit z)=>bc k kd&&gN z 0
 | _=>false
theorem aec {U:Env} {j:J} {kd:IntKind}:∀{cs:List C} {vs:List Value},cs.all (C.isZk kd)=true->denL U j cs=some vs->vs=List.replicate cs.length (.int kd 0)
 | [],vs,_,h=>by cases h;rfl
 | c::cs,vs,hc,h=>by
   rw[List.all_cons,thm0] at hc
   have h1:=hc.1
   unfold C.isZk at h1
   split at h1
   ·rename_i k z
    rw[thm0] at h1
    have e1:=aA h1.1
    have e2:=dT h1.2
    subst e1 e2
    simp only[denL,C.den,E.I] at h
    cases hl:denL U j cs with
    | none=>rw[hl] at h;cases h
    | some us=>
      rw[hl] at h;cases h
      rw[aec hc.2 hl]
      rfl
   ·cases h1
def rL:List CE->E
 | []=>.nil
 | none::ks=>.cb (.tt false) (rL ks)
 | some _::ks=>.cons (.lit 0) (rL ks)
theorem yv (U:Env):∀ks:List CE,(rL ks).L U=List.replicate ks.length 0
 | []=>rfl
 | none::ks=>by
   simp only[rL,E.L,yv U ks,E.B,List.length_cons,List.replicate_succ]
   rfl
 | some _::ks=>by simp only[rL,E.L,yv U ks,E.I,List.length_cons,List.replicate_succ]
theorem aeb:∀ks:List CE,aG ks (List.replicate ks.length 0)=true
 | []=>rfl
 | none::ks=>by simp[List.replicate_succ,aG,inCE,aeb ks]
 | some k::ks=>by simp[List.replicate_succ,aG,inCE,jb,aeb ks]
def C.isNilp:C->Bool
 | .np=>true
 | _=>false
theorem xI {U:Env} {j:J}:∀{cs:List C} {vs:List Value},cs.all C.isNilp=true->denL U j cs=some vs->vs=(List.replicate cs.length (none:Option Addr)).map Value.pointer
 | [],vs,_,h=>by cases h;rfl
 | c::cs,vs,hc,h=>by
   rw[List.all_cons,thm0] at hc
   cases c<;>first | cases hc.1 | skip
   simp only[denL,C.den] at h
   cases hl:denL U j cs with
   | none=>rw[hl] at h;cases h
   | some us=>
     rw[hl] at h;cases h
     rw[xI hc.2 hl]
     rfl
def getE (l e:E):Nat->List CE->E
 | _,[]=>.nil
 | c,none::ks=>.cb (pM l e c) (getE l e (c+1) ks)
 | c,some _::ks=>.cons (aiE l e c) (getE l e (c+1) ks)
theorem aom {U:Env} {l e:E} {row:List Int} (h:(l.R U)[(e.I U).toNat]? =some row):∀(ks:List CE) (c:Nat),aG ks (row.drop c)=true->(getE l e c ks).L U=row.drop c
 | [],c,hr=>by
   cases hd:row.drop c with
   | nil=>rfl
   | cons x xs=>rw[hd] at hr;cases hr
 | k::ks,c,hr=>by
   cases hd:row.drop c with
   | nil=>rw[hd] at hr;cases hr
   | cons x xs=>
     have hx:row.getD c 0=x:=by
      have:=congrArg List.head? hd
      rw[List.head?_drop] at this
      rw[cW,this];rfl
     have hxs:row.drop (c+1)=xs:=by rw[<-List.tail_drop,hd];rfl
     rw[hd] at hr
     simp only[aG,thm0] at hr
     have hg:gt (l.R U) (e.I U) c=x:=by
      unfold gt
      rw[cW (l:=l.R U),h];exact hx
     have ih:=aom h ks (c+1) (by rw[hxs];exact hr.2)
     rw[hxs] at ih
     cases k with
     | some kd=>simp only[getE,E.L,aiD,hg,ih]
     | none=>
       have h0:=hr.1
       simp only[inCE,bH,db] at h0
       simp only[getE,E.L,uA,hg,ih]
       rcases h0 with rfl | rfl<;>rfl
def getF (l e:E) (c:Nat) (ks:List CE):E:=match(lB l e).bind (adN c) with
 | some t=>t
 | none=>getE l e c ks
theorem aaq {U:Env}:∀{c:Nat} {row t:E},adN c row=some t->t.L U=(row.L U).drop c
 | 0,row,t,h=>by cases h;rfl
 | c+1,.cons _ u,t,h=>aaq (c:=c) (row:=u) h
 | c+1,.cb _ u,t,h=>aaq (c:=c) (row:=u) h
theorem aiJ {U:Env} {l e r:E} (h:lB l e=some r):(l.R U)[(e.I U).toNat]? =some (r.L U):=by
 unfold lB at h
 split at h
 ·rename_i i
  exact xv U l i r h
 ·cases h
theorem aol {U:Env} {l e:E} {row:List Int} (h:(l.R U)[(e.I U).toNat]? =some row) (ks:List CE) (c:Nat) (hr:aG ks (row.drop c)=true):(getF l e c ks).L U=row.drop c:=by
 unfold getF
 split
 ·rename_i t ht
  rw[bS] at ht
  obtain⟨r,h1,h2⟩:=ht
  have h3:=aiJ (U:=U) h1
  rw[h] at h3
  cases h3
  exact aaq h2
 ·exact aom h ks c hr
theorem mt:∀{ks:List CE} {row:List Int} (c:Nat),aG ks row=true->aG (ks.drop c) (row.drop c)=true
 | ks,row,0,h=>h
 | [],[],c+1,_=>rfl
 | k::ks,x::xs,c+1,h=>by
   simp only[aG,thm0] at h
   exact mt c h.2
theorem px:∀{ks:List CE} {row:List Int} (c m:Nat),aG ks row=true->(rowV ks row)[c+m]? =(rowV (ks.drop c) (row.drop c))[m]?
 | ks,row,0,m,h=>by rw[bt];rfl
 | [],[],c+1,m,_=>by simp[rowV]
 | k::ks,x::xs,c+1,m,h=>by
   simp only[aG,thm0] at h
   rw[show c+1+m=(c+m)+1 by omega]
   simpa[rowV] using px c m h.2
def mU:List CE->E->List C->Option E
 | _,t,[]=>some t
 | some k::ks,.cons _ t,.int k' x::cs=>if bc k' k then(mU ks t cs).map (.cons x ·) else none
 | none::ks,.cb _ t,.bool x::cs=>(mU ks t cs).map (.cb x ·)
 | _,_,_=>none
def zK:Nat->List CE->E->List C->Option E
 | 0,ks,t,cs=>mU ks t cs
 | off+1,_::ks,.cons a t,cs=>(zK off ks t cs).map (.cons a ·)
 | off+1,_::ks,.cb a t,cs=>(zK off ks t cs).map (.cb a ·)
 | _,_,_,_=>none
theorem anu (R:List Int) (c:Nat) (x:Int):st [R] 0 c x=[R.set c x]:=rfl
theorem afZ (P R:List Int) (y x:Int):(P++y::R).set P.length x=(P++[x])++R:=by simp
theorem py {U:Env} {vk:List VK}:∀(cs:List C) (ks:List CE) (t t' l:E) (Q:List Int),cs.all (C.rng vk)=true->mU ks t cs=some t'->l.R U=[Q++t.L U]->∃l',eB vk l (.lit 0) Q.length ks cs=some l'/\l'.R U=[Q++t'.L U]
 | [],ks,t,t',l,Q,_,h,hl=>by
   have e:t'=t:=by
    unfold mU at h
    cases ks with
    | nil=>exact(Option.some.inj h).symm
    | cons k ks=>cases k<;>exact(Option.some.inj h).symm
   subst e
   refine⟨l,?_,hl⟩
   unfold eB
   cases ks with
   | nil=>rfl
   | cons k ks=>cases k<;>rfl
 | c::cs,ks,t,t',l,Q,hr,h,hl=>by
   simp only[List.all_cons,thm0] at hr
   cases ks with
   | nil=>simp[mU] at h
   | cons k ks=>
     cases k with
     | some kd=>
       cases t<;>cases c<;>simp only[mU] at h<;>first | cases h | skip
       rename_i a t k' x
       split at h
       ·rename_i hk
        rw[thm4] at h
        obtain⟨t1,h1,rfl⟩:=h
        obtain⟨l',h2,h3⟩:=py (U:=U) cs ks t t1 (.lset l (.lit 0) Q.length x) (Q++[x.I U]) hr.2 h1 (by simp only[E.R,E.L,E.I,hl,anu,afZ])
        refine⟨l',?_,by rw[h3];simp[E.L]⟩
        have hk2:(bc k' kd&&x.rng vk kd)=true:=by
         have h9:x.rng vk k'=true:=hr.1
         rw[aA hk] at h9
         rw[hk,h9];rfl
        simp only[eB,hk2,if_true]
        rw[<-h2];simp
       ·cases h
     | none=>
       cases t<;>cases c<;>simp only[mU] at h<;>first | cases h | skip
       rename_i a t x
       rw[thm4] at h
       obtain⟨t1,h1,rfl⟩:=h
       obtain⟨l',h2,h3⟩:=py (U:=U) cs ks t t1 (.lsetb l (.lit 0) Q.length x) (Q++[b2i (x.B U)]) hr.2 h1 (by simp only[E.R,E.L,E.I,hl,anu,afZ])
       refine⟨l',?_,by rw[h3];simp[E.L]⟩
       simp only[eB]
       rw[<-h2];simp
theorem um {U:Env} {vk:List VK}:∀(off:Nat) (cs:List C) (ks:List CE) (t t' l:E) (Q:List Int),cs.all (C.rng vk)=true->zK off ks t cs=some t'->l.R U=[Q++t.L U]->∃l',eB vk l (.lit 0) (Q.length+off) (ks.drop off) cs=some l'/\l'.R U=[Q++t'.L U]
 | 0,cs,ks,t,t',l,Q,hr,h,hl=>py cs ks t t' l Q hr (by cases ks<;>exact h) hl
 | off+1,cs,ks,t,t',l,Q,hr,h,hl=>by
   cases ks with
   | nil=>simp[zK] at h
   | cons k ks=>
     cases t<;>simp only[zK] at h<;>first | cases h | skip
     ·rename_i a t
      rw[thm4] at h
      obtain⟨t1,h1,rfl⟩:=h
      obtain⟨l',h2,h3⟩:=um (U:=U) off cs ks t t1 l (Q++[a.I U]) hr h1 (by rw[hl];simp[E.L])
      refine⟨l',?_,by rw[h3];simp[E.L]⟩
      rw[<-h2];simp only[List.drop_succ_cons,eV,List.length_cons,List.length_nil]
      congr 1;omega
     ·rename_i a t
      rw[thm4] at h
      obtain⟨t1,h1,rfl⟩:=h
      obtain⟨l',h2,h3⟩:=um (U:=U) off cs ks t t1 l (Q++[b2i (a.B U)]) hr h1 (by rw[hl];simp[E.L])
      refine⟨l',?_,by rw[h3];simp[E.L]⟩
      rw[<-h2];simp only[List.drop_succ_cons,eV,List.length_cons,List.length_nil]
      congr 1;omega
def selL (l e:E):E:=match l with
 | .lput _ e' row=>if e'.same e then .lq .ln row else l
 | l=>l
def selI (l e:E):E:=match l with
 | .lput _ e' _=>if e'.same e then .lit 0 else e
 | _=>e
theorem as3 {U:Env} {l e:E} {row:List Int} (h:(l.R U)[(e.I U).toNat]? =some row):((selL l e).R U)[((selI l e).I U).toNat]? =some row:=by
 cases l<;>first | exact h | skip
 rename_i a e' r
 simp only[selL,selI]
 split
 ·rename_i hs
  have he:=E.same_eq hs
  subst he
  simp only[E.R] at h
  have hlt:=(cf.1 h).1
  rw[List.length_set] at hlt
  rw[List.getElem?_set_self hlt] at h
  simpa[E.R,E.I] using h
 ·exact h
def Vw.tabw (vw:Vw) (id:Nat):Option RowOb:=match vw.rw id with
 | some r=>match r.kd with
   | .tab=>some r
   | _=>none
 | none=>none
theorem Vw.tabw_some {vw:Vw} {id:Nat} {r:RowOb} (h:vw.tabw id=some r):vw.rw id=some r/\r.kd=.tab:=by
 unfold Vw.tabw at h
 split at h
 ·rename_i q hq
  split at h
  ·rename_i hk
   cases h
   exact⟨hq,hk⟩
  ·cases h
 ·cases h
section
variable {P:Program} {sp:Spec} {U:Env} {G:Env->E->Prop} {I:Nat->List Dt->Prop} {base:Nat} {cx:Cx} {vw:Vw} {o:Oper} {k:Eff->Kw->Tr}
theorem RrOk.tb {j:J} {w:World} {rr:List Nat} (h:RrOk U base j w vw.rw rr) (id:Nat) (hid:id∈rr) (r:RowOb) (hr:vw.tabw id=some r):∃s,j.s id=some s/\HdOk U base w s r/\TbAt U j w s r/\∀k o,j.g.z k=some o->w.heap[k]? =some o:=by
 obtain⟨h1,h2⟩:=Vw.tabw_some hr
 obtain⟨s,h3,h4,_,_,h5⟩:=h id hid r h1
 exact⟨s,h3,h4.2.1 (by rw[h2];rfl),(h5 h2).1,(h5 h2).2⟩
theorem aiq {w:World} {cells:Array Value} {t:Nat} {ks:List CE} {r:E} (h1:cells.toList=rowV ks (r.L U)) (h2:aG ks (r.L U)=true) (h3:0<ks.length):RowOk U w.heap.size (w.alloc (.cells cells t)) ⟨some ⟨w.heap.size,0,none⟩,1,1,[]⟩ ⟨ks,t,.lq .ln r,true,.sl⟩:=by
 have e:(E.lq .ln r).R U=[r.L U]:=by simp[E.R]
 have f:flat ks [r.L U]=cells.toList:=by rw[h1];simp[flat]
 have hs:cells.size=1*ks.length:=by
  have:=congrArg List.length h1
  rw[dv h2] at this
  simpa using this
 have own:=World.ownsRow_lit (base:=w.heap.size) (e:=t) (size:=ks.length) w cells 1 (Nat.le_refl _) (by simp[maxLen]) hs
 refine RowOk.mk_own rfl (by rw[e];rfl) ⟨fun q hq=> ?_,by rw[e];simp[maxLen]⟩ h3 ?_
 ·rw[e,du] at hq
  rw[hq];exact h2
 ·rw[e,f];exact own
theorem acC {j:J} {nid n g a b:Nat}:(V.one (.ep nid n (.lit 0) 0)).den U (j.putL nid [⟨some ⟨g,0,none⟩,a,b,[]⟩])=some (.pointer (some ⟨g,0,none⟩)):=by
 simp[V.den,C.den,J.putL,SV.elem,E.I,be]
theorem wk (hT:∀t i,(t,i)∈cx.ty->TIok P t i) {t:Nat} {kw:Kw} (hop:o.op=.alloc t) {i:TI} (hi:az t cx.ty=some i) {ks:List CE} {r:E} (hr:rowE kw.vk ks i.zero=some r) (hpos:0<ks.length)
  (h:(k {val:=.one (.ep vw.nid ks.length (.lit 0) 0),re:=.mk [⟨ks,t,.lq .ln r,true,.sl⟩]} kw).holds sp G U I) (hg:Good sp cx.sm U kw):Sound P sp U G I base cx vw o k kw:=by
 refine⟨_,kw,h,hg,.refl _,fun j a w hb hev hrd hwr hrr hfb K Q hK=> ?_⟩
 obtain⟨z,hz,hd⟩:=(hT _ _ (ao hi)).zero
 obtain⟨h1,h2⟩:=pB hg.vk hr (hd U j)
 refine ek (w':=w.alloc (.cells z.cells t)) (v:=.pointer (some ⟨w.heap.size,0,none⟩)) ?_ (hK _ (j.putL vw.nid [⟨some ⟨w.heap.size,0,none⟩,1,1,[]⟩]) _ acC (rb (Ext.of_grown (World.grownBy_alloc w _ none)) (aiq h1 h2 hpos) rfl rfl))
 simp[execOp,hop,Instr.alloc,Sem.run_bind,hz,newVar,newRow,newObj,Sem.run]
theorem ac9 {t:Nat} {x:Operand} {kw:Kw} (hop:o.op=.box t x) {v:V} (hv:vw.ev x=some v) (hf:v.flat=true) {ks:List CE} {r:E} (hr:rowE kw.vk ks v.cells=some r) (hpos:0<ks.length)
  (h:(k {val:=.one (.ep vw.nid ks.length (.lit 0) 0),re:=.mk [⟨ks,t,.lq .ln r,true,.sl⟩]} kw).holds sp G U I) (hg:Good sp cx.sm U kw):Sound P sp U G I base cx vw o k kw:=by
 refine⟨_,kw,h,hg,.refl _,fun j a w hb hev hrd hwr hrr hfb K Q hK=> ?_⟩
 have hd:=V.cells_ok (hev x (by simp[hop,Op.operands]) v hv) hf
 obtain⟨h1,h2⟩:=pB hg.vk hr hd
 refine ek (w':=w.alloc (.cells (a.eval x).cells t)) (v:=.pointer (some ⟨w.heap.size,0,none⟩)) ?_ (hK _ (j.putL vw.nid [⟨some ⟨w.heap.size,0,none⟩,1,1,[]⟩]) _ acC (rb (Ext.of_grown (World.grownBy_alloc w _ none)) (aiq h1 h2 hpos) rfl rfl))
 simp[execOp,hop,Instr.box,Sem.run_bind,newVar,newRow,newObj,Sem.run]
theorem wj (hT:∀t i,(t,i)∈cx.ty->TIok P t i) {t:Nat} {kw:Kw} (hop:o.op=.alloc t) {i:TI} (hi:az t cx.ty=some i) (ks:List CE) (st:Nat) (hn:i.zero.all C.isNilp=true) (hl:i.zero.length<=65536)
  (h:(k {val:=.one (.ep vw.nid 1 (.lit 0) 0),re:=.mk [⟨none::ks,st,.lrep (.lit i.zero.length) (rL (none::ks)),true,.tab⟩]} kw).holds sp G U I) (hg:Good sp cx.sm U kw):Sound P sp U G I base cx vw o k kw:=by
 refine⟨_,kw,h,hg,.refl _,fun j a w hb hev hrd hwr hrr hfb K Q hK=> ?_⟩
 obtain⟨z,hz,hd⟩:=(hT _ _ (ao hi)).zero
 have e:=xI hn (hd U j)
 have hcs:z.cells=((List.replicate i.zero.length (none:Option Addr)).map Value.pointer).toArray:=by
  rw[<-e,Array.toArray_toList]
 have hR:(E.lrep (.lit i.zero.length) (rL (none::ks))).R U=List.replicate i.zero.length (List.replicate (ks.length+1) 0):=by
  simp only[E.R,E.I,yv,dj,List.length_cons]
 have hhp:=heap_alloc_new w (.cells z.cells t)
 refine ek (w':=w.alloc (.cells z.cells t)) (v:=.pointer (some ⟨w.heap.size,0,none⟩)) ?_ (hK _ (j.putL vw.nid [⟨some ⟨w.heap.size,0,none⟩,1,1,[]⟩]) _ acC (rb (Ext.of_grown (World.grownBy_alloc w _ none)) (HdOk.row ⟨rfl,⟨fun q hq=> ?_,?_⟩,rfl,w.heap.size,_,rfl,Nat.le_refl _,hhp,?_⟩ rfl) rfl rfl rfl (fun _ jj=>⟨w.heap.size,List.replicate i.zero.length none,t,rfl,by rw[<-hcs];exact hhp,by rw[hR];simp,fun m row p hm hp=> ?_⟩)))
 ·simp[execOp,hop,Instr.alloc,Sem.run_bind,hz,newVar,newRow,newObj,Sem.run]
 ·rw[hR] at hq
  rw[(List.mem_replicate.1 hq).2]
  exact aeb (none::ks)
 ·rw[hR,List.length_replicate];simp only[maxLen];omega
 ·exact⟨List.replicate i.zero.length none,t,by rw[<-hcs]⟩
 ·have hp':=fq hp
  rw[(List.mem_replicate.1 hp').2]
  have hm:((E.lrep (.lit i.zero.length) (rL (none::ks))).R U)[m]? =some row:=hm
  rw[hR] at hm
  rw[(List.mem_replicate.1 (fq hm)).2]
  simp[PtIs,List.replicate_succ]
theorem wl (hT:∀t i,(t,i)∈cx.ty->TIok P t i) {t:Nat} {kw:Kw} (hop:o.op=.alloc t) {i:TI} (hi:az t cx.ty=some i) {kd:IntKind} (hn:i.zero.all (C.isZk kd)=true) (hl:i.zero.length<=65536)
  (h:(k {val:=.one (.ep vw.nid 1 (.lit 0) 0),re:=.mk [⟨[some kd],t,.lrep (.lit i.zero.length) (.cons (.lit 0) .nil),true,.sl⟩]} kw).holds sp G U I) (hg:Good sp cx.sm U kw):Sound P sp U G I base cx vw o k kw:=by
 refine⟨_,kw,h,hg,.refl _,fun j a w hb hev hrd hwr hrr hfb K Q hK=> ?_⟩
 obtain⟨z,hz,hd⟩:=(hT _ _ (ao hi)).zero
 have e:=aec hn (hd U j)
 have hR:(E.lrep (.lit i.zero.length) (.cons (.lit 0) .nil)).R U=List.replicate i.zero.length [0]:=by
  simp only[E.R,E.I,E.L,dj]
 have hfl:flat [some kd] (List.replicate i.zero.length [0])=z.cells.toList:=by
  rw[e]
  generalize i.zero.length=m
  induction m with
  | zero=>rfl
  | succ m ih=>rw[List.replicate_succ,dh,ih,List.replicate_succ];rfl
 have hsz:z.cells.size=i.zero.length*1:=by
  have:=congrArg List.length e
  simpa using this
 have own:=World.ownsRow_lit (base:=w.heap.size) (e:=t) (size:=1) w z.cells i.zero.length (Nat.le_refl _) (by simp only[maxLen];omega) hsz
 refine ek (w':=w.alloc (.cells z.cells t)) (v:=.pointer (some ⟨w.heap.size,0,none⟩)) ?_ (hK _ (j.putL vw.nid [⟨some ⟨w.heap.size,0,none⟩,i.zero.length,i.zero.length,[]⟩]) _ acC (rb (Ext.of_grown (World.grownBy_alloc w _ none)) (RowOk.mk_own rfl (by rw[hR];simp) ⟨fun q hq=> ?_,?_⟩ (by simp) (by rw[hR,hfl];exact own)) rfl rfl))
 ·simp[execOp,hop,Instr.alloc,Sem.run_bind,hz,newVar,newRow,newObj,Sem.run]
 ·rw[hR] at hq
  rw[(List.mem_replicate.1 hq).2]
  simp[aG,inCE,jb]
 ·rw[hR,List.length_replicate];simp only[maxLen];omega
theorem vW (hT:∀t i,(t,i)∈cx.ty->TIok P t i) {t:Nat} {x y:Operand} {kw:Kw} (hop:o.op=.indexAddr t x y) {id:Nat} (hx:vw.ev x=some (.one (.ep id 1 (.lit 0) 0))) {k0:IntKind} {e:E} (hy:vw.ev y=some (.one (.int k0 e))) {i:TI} (hi:az t cx.ty=some i)
  {n et:Nat} (ha:i.arr=some (n,et)) {ie:TI} (hie:az et cx.ty=some ie) (h1s:ie.size=1)
  (h:(decK (inR e n) (fun ok kw=>if ok then k {val:=.one (.ep id 1 e 0)} kw else .panic) kw).holds sp G U I) (hg:Good sp cx.sm U kw):Sound P sp U G I base cx vw o k kw:=by
 obtain⟨kw1,g1,q1,_,l1⟩:=ba _ _ _ h hg
 rw[ai3] at g1
 split at g1
 ·rename_i hr
  rw[thm0,aZ,aZ] at hr
  have hu:=(hT _ _ (ao hi)).arr n et ha
  have hs:=(hT _ _ (ao hie)).size
  refine⟨_,kw1,g1,q1,l1,OpOk.pure fun j a w _ hev _ _ _=> ?_⟩
  have hd:=hev x (by simp[hop,Op.operands]) _ hx
  simp only[V.den,C.den,bS,SV.elem,thm4] at hd
  obtain⟨s,hs1,p,hp,he⟩:=hd
  have hq:=cP (hev y (by simp[hop,Op.operands]) _ hy)
  refine⟨.pointer (some (p.add ((e.I U).toNat*1+0))),by simp[V.den,C.den,hs1,SV.elem,hp],?_⟩
  have he':=he.symm
  simp only[E.I,Int.toNat_zero,Nat.zero_mul,Nat.add_zero] at he'
  have hadd:(p.add 0).add ((e.I U).toNat*1)=p.add ((e.I U).toNat*1+0):=by rw[ct];congr 1;omega
  rw[<-hadd]
  simp[execOp,hop,he',hq,Instr.indexAt,run_underlying hu,Instr.sureAddr,asIntOf,hr,hs,h1s,Sem.run_bind]
 ·exact g1.elim
theorem uX (g m:Nat):(⟨g,0,none⟩:Addr).add m=⟨g,m,none⟩:=by rw[be,bt]
theorem aaS {w:World} {g ty m:Nat} {ps:List (Option Addr)} {p:Option Addr} (hh:w.heap[g]? =some (.cells (ps.map Value.pointer).toArray ty (0,0))) (hp:ps[m]? =some p):w.cell? ⟨g,m,none⟩=some (.pointer p):=by
 simp[World.cell?,hh,hp]
theorem yO (hT:∀t i,(t,i)∈cx.ty->TIok P t i) {t:Nat} {x:Operand} {kw:Kw} (hop:o.op=.load t x) {id:Nat} {e:E} (hx:vw.ev x=some (.one (.ep id 1 e 0))) {i:TI} (hi:az t cx.ty=some i) (hagg:i.agg=false) {r:RowOb} (hr:vw.tabw id=some r) {ks:List CE} (hks:r.ks=none::ks) (hpos:0<ks.length)
  (h:(decK (inB e r.l) (fun ok kw=>if ok then decK (pM (selL r.l e) (selI r.l e) 0) (fun b kw=>if b then k {val:=.one (.ep vw.nid ks.length (.lit 0) 0),rr:=[id],re:=.peek ⟨ks,r.ty,.lq .ln (getF (selL r.l e) (selI r.l e) 1 ks),false,.sl⟩} kw else k {val:=.one .np,rr:=[id]} kw) kw else .stuck 270) kw).holds sp G U I) (hg:Good sp cx.sm U kw):Sound P sp U G I base cx vw o k kw:=by
 obtain⟨kw1,h1,g1,_,l1⟩:=ba _ _ _ h hg
 rw[aaf] at h1
 have ht:=hT _ _ (ao hi)
 split at h1
 ·rename_i hb
  simp only[thm0,aZ] at hb
  obtain⟨kw2,h2,g2,_,l2⟩:=ba _ _ _ h1 g1
  rw[uA] at h2
  have hlt:(e.I U).toNat<(r.l.R U).length:=by omega
  have hrow:=thm6 hlt
  obtain⟨row,hrw⟩:∃row,row=(r.l.R U)[(e.I U).toNat]:=⟨_,rfl⟩
  rw[<-hrw] at hrow
  have hsel:=as3 hrow
  have hg0:gt ((selL r.l e).R U) ((selI r.l e).I U) 0=row.getD 0 0:=by
   unfold gt
   rw[cW (l:=(selL r.l e).R U),hsel];rfl
  rw[hg0] at h2
  have cell:∀{j:J} {a:Act} {w:World} {s:SV},j.s id=some s->TbAt U j w s r->(V.one (.ep id 1 e 0)).den U j=some (a.eval x)->∃p,PtIs j r.ks row p/\(execOp a.eval o).run P w=.ok (.value (.pointer p)) w:=by
   intro j a w s hs htab hd
   obtain⟨g,ps,ty,a1,a2,a3,a4⟩:=htab
   obtain⟨q,hq,he⟩:=yb hs hd
   rw[a1] at hq;cases hq
   have hp:=thm6 (show(e.I U).toNat<ps.length by omega)
   refine⟨_,a4 _ _ _ hrow hp,?_⟩
   have hc:=aaS a2 hp
   rw[uX,Nat.mul_one,Nat.add_zero] at he
   simp[execOp,hop,he,Instr.loadAt,Instr.sureAddr,Sem.run_bind,loadVar,ht.agg,hagg,load,Sem.run,hc]
  split at h2
  ·rename_i h0
   rw[db] at h0
   refine⟨_,kw2,h2,g2,l2.trans l1,fun j a w hbs hev hrd hwr hrr hfb K Q hK=> ?_⟩
   obtain⟨s,hs,hok,htab,hz⟩:=hrr.tb id (by simp) r hr
   obtain⟨p,hp,hrun⟩:=cell hs htab (hev x (by simp[hop,Op.operands]) _ hx)
   cases p with
   | none=>rw[show row.getD 0 0=0 from hp] at h0;cases h0
   | some q=>
     obtain⟨_,⟨b,f,rfl⟩,vs,ty,z1,z2⟩:=hp
     have hin:=hok.rows.row row (fq hrow)
     rw[hks] at hin z2
     have hin1:aG ks (row.drop 1)=true:=mt 1 hin
     have hL:=aol hsel ks 1 hin1
     have hh:=hz _ _ z1
     have hR:(E.lq .ln (getF (selL r.l e) (selI r.l e) 1 ks)).R U=[row.drop 1]:=by simp[E.R,hL]
     have hfl:flat ks [row.drop 1]=rowV ks (row.drop 1):=by simp[flat]
     refine ek (w':=w) hrun (hK _ (j.putS vw.nid ⟨some ⟨b,f,none⟩,1,1,[]⟩) w ?_ ⟨rfl,⟨some ⟨b,f,none⟩,1,1,[]⟩,SlOk.row ⟨by rw[hR];rfl,⟨fun q hq=> ?_,by rw[hR];simp[maxLen]⟩,hpos,fun k hk=> ?_,fun ho=>(by cases ho),?_⟩ rfl,fun k hk=> ?_,rfl,rfl,fun e=>(by cases e)⟩)
     ·simp[V.den,C.den,J.putS,SV.elem,E.I,be]
     ·rw[hR,du] at hq
      rw[hq];exact hin1
     ·have hk:=aL hk
      simp only[SV.v,Value.ownBlock,bk] at hk
      subst hk
      exact(fm.1 hh).1
     ·show RdRow w ks.length _ (flat ks ((E.lq .ln (getF (selL r.l e) (selI r.l e) 1 ks)).R U))
      rw[hR,hfl]
      refine⟨by rw[dv hin1];simp,Nat.le_refl _,by simp[maxLen],fun h=>(by cases h),fun ad had m u hm=> ?_⟩
      cases had
      rw[be]
      have e1:(rowV (none::ks) row)[m+1]? =some u:=by
       have:=px (ks:=none::ks) 1 m hin
       rw[Nat.add_comm,this];exact hm
      have e2:=z2 m u e1
      simp only at e2 hh
      simp[World.cell?,hh,e2]
     ·have hk:=aL hk
      simp only[SV.v,Value.ownBlock,bk] at hk
      subst hk
      exact⟨_,z1,rfl⟩
  ·rename_i h0
   refine⟨_,kw2,h2,g2,l2.trans l1,OpOk.pure fun j a w _ hev _ hrr _=> ?_⟩
   obtain⟨s,hs,hok,htab,hz⟩:=hrr.tb id (by simp) r hr
   obtain⟨p,hp,hrun⟩:=cell hs htab (hev x (by simp[hop,Op.operands]) _ hx)
   cases p with
   | none=>exact⟨_,rfl,hrun⟩
   | some q=>exact absurd (by rw[hp.1];rfl) h0
 ·exact h1.elim
theorem vV (hT:∀t i,(t,i)∈cx.ty->TIok P t i) {t:Nat} {x y:Operand} {kw:Kw} (hop:o.op=.store t x y) {id xid fo:Nat} {e:E} (hx:vw.ev x=some (.one (.ep id 1 e 0))) {r q:RowOb} (hy:vw.ev y=some (.one (.ep xid q.ks.length (.lit 0) fo))) {i:TI} (hi:az t cx.ty=some i) (h1s:i.size=1) (hr:vw.tabw id=some r) {ks:List CE} (hks:r.ks=none::ks) (hq:vw.sw xid=some q) (hown:q.own=true) (hqk:q.ks.drop fo=ks)
  (h:(decK (inB e r.l) (fun ok kw=>if ok then decK (inB (.lit 0) q.l) (fun ok kw=>if ok then k {val:=.one .undef,rr:=[xid,id],re:=.tset xid {q with own:=false} id {r with l:=.lput r.l e (.cb (.tt true) (getF q.l (.lit 0) fo ks))}} kw else .stuck 271) kw else .stuck 272) kw).holds sp G U I) (hg:Good sp cx.sm U kw):Sound P sp U G I base cx vw o k kw:=by
 obtain⟨kw1,h1,g1,_,l1⟩:=ba _ _ _ h hg
 rw[aaf] at h1
 have ht:=hT _ _ (ao hi)
 split at h1
 ·rename_i hb
  simp only[thm0,aZ] at hb
  obtain⟨kw2,h2,g2,_,l2⟩:=ba _ _ _ h1 g1
  rw[aaf] at h2
  split at h2
  ·rename_i hb0
   simp only[thm0,aZ,E.I] at hb0
   refine⟨_,kw2,h2,g2,l2.trans l1,fun j a w hbs hev hrd hwr hrr hfb K Q hK=> ?_⟩
   obtain⟨st,hst,hok,htab,hz⟩:=hrr.tb id (by simp) r hr
   obtain⟨s,hs,hq1⟩:=hrr.sl xid (by simp) q hq
   obtain⟨g,ps,ty,a1,a2,a3,a4⟩:=htab
   obtain⟨pa,hpa,he⟩:=yb hst (hev x (by simp[hop,Op.operands]) _ hx)
   rw[a1] at hpa;cases hpa
   rw[uX,Nat.mul_one,Nat.add_zero] at he
   obtain⟨pb,hpb,hv⟩:=yb hs (hev y (by simp[hop,Op.operands]) _ hy)
   have howns:=hq1.own hown
   obtain⟨kb,cap,cur,b1,b2,b3,b4⟩:∃kb cap cur,s.v=.slice (some ⟨kb,0,none⟩) s.n cap/\w.heap[kb]? =some (.cells cur q.ty (0,0))/\cur.toList.take (s.n*q.ks.length)=flat q.ks (q.l.R U)/\pb=⟨kb,0,none⟩:=by
    rcases howns.2 with⟨c1,c2⟩ | ⟨kb,cap,cur,c1,_,c2,_,_,_,c3⟩
    ·simp only[SV.v,hpb] at c1;cases c1
    ·refine⟨kb,cap,cur,c1,c2,c3,?_⟩
     simp only[SV.v,hpb,Value.slice.injEq,bk] at c1
     exact c1.1
   subst b4
   have hvv:a.eval y=.pointer (some ⟨kb,fo,none⟩):=by
    rw[hv,uX];simp[E.I]
   have h0:0<(q.l.R U).length:=by have hh:=hb0.2;exact Int.ofNat_lt.1 (thm3 hh)
   have hrow0:=thm6 h0
   obtain⟨row,hrw⟩:∃row,row=(q.l.R U)[0]:=⟨_,rfl⟩
   rw[<-hrw] at hrow0
   have hin:=hq1.rows.row row (fq hrow0)
   have hin1:=mt fo hin
   rw[hqk] at hin1
   have hL:=aol (U:=U) (e:=.lit 0) hrow0 ks fo hin1
   have hlt:(e.I U).toNat<ps.length:=by omega
   have hcell:=aaS a2 (thm6 hlt)
   have hfr:w.frozen? ⟨g,(e.I U).toNat,none⟩=false:=by simp[World.frozen?,a2]
   have hw2:=heap_setCell_same w g (e.I U).toNat (ps.map Value.pointer).toArray ty (.pointer (some ⟨kb,fo,none⟩)) a2
   have hset:((ps.map Value.pointer).toArray.setIfInBounds (e.I U).toNat (.pointer (some ⟨kb,fo,none⟩)))=((ps.set (e.I U).toNat (some ⟨kb,fo,none⟩)).map Value.pointer).toArray:=by
    simp[List.map_set]
   rw[hset] at hw2
   have hR:(E.lput r.l e (.cb (.tt true) (getF q.l (.lit 0) fo ks))).R U=(r.l.R U).set (e.I U).toNat (1::row.drop fo):=by
    simp only[E.R,E.L,hL,E.B];rfl
   have hnew:aG (none::ks) (1::row.drop fo)=true:=by simp[aG,inCE,hin1]
   have hst2:st.v.ownBlock=some g:=by simp[SV.v,a1,Value.ownBlock]
   refine vd (w':=w.setCell ⟨g,(e.I U).toNat,none⟩ (.pointer (some ⟨kb,fo,none⟩))) ?_ (hK _ (j.addz [(kb,.cells cur q.ty (0,0))]) _ rfl ⟨s,st,kb,.cells cur q.ty (0,0),hs,hst,hq1.shut.row (Vw.sw_some hq).2,HdOk.row ⟨hok.own,⟨fun z hz'=> ?_,?_⟩,hok.c,g,_,a1,?_,hw2,?_⟩ (by rw[show r.kd=.tab from(Vw.tabw_some hr).2];rfl),by rw[b1];rfl,b2,rfl,?_,rfl,⟨g,ps.set (e.I U).toNat (some ⟨kb,fo,none⟩),ty,a1,hw2,?_,fun m row' p hm hp=> ?_⟩,fun e=>by rw[show q.kd=.sl from(Vw.sw_some hq).2] at e;cases e⟩)
   ·have hst1:(storeCells ⟨g,(e.I U).toNat,none⟩ [Value.pointer (some ⟨kb,fo,none⟩)] 0).run P w=.ok () (w.setCell ⟨g,(e.I U).toNat,none⟩ (.pointer (some ⟨kb,fo,none⟩))):=by
     have hone:(Value.pointer (some ⟨kb,fo,none⟩)).oneCell'=true:=rfl
     simp only[storeCells,be,Nat.add_zero,Sem.run_bind,run_store P w _ _ _ hone,hcell,hfr,Result.andThen_ok,Bool.false_eq_true,if_false,Sem.run_pure]
    have hcs:(Value.pointer (some ⟨kb,fo,none⟩)).cells = #[Value.pointer (some ⟨kb,fo,none⟩)]:=rfl
    simp[execOp,hop,he,hvv,Instr.storeAt,Instr.sureAddr,Sem.run_bind,storeVar,ht.size,h1s,hcs,hst1]
   ·have hz':z∈(E.lput r.l e (.cb (.tt true) (getF q.l (.lit 0) fo ks))).R U:=hz'
    rw[hR] at hz'
    rcases List.mem_or_eq_of_mem_set hz' with h' | h'
    ·exact hok.rows.row z h'
    ·show aG r.ks z=true
     rw[hks,h'];exact hnew
   ·show((E.lput r.l e (.cb (.tt true) (getF q.l (.lit 0) fo ks))).R U).length<=maxLen
    rw[hR,List.length_set];exact hok.rows.len
   ·obtain⟨g',o',c1,c2,_⟩:=hok.at'
    rw[a1] at c1;cases c1;exact c2
   ·show obOf U st {r with l:=_} _
    unfold obOf
    simp only[(Vw.tabw_some hr).2]
    exact⟨_,_,rfl⟩
   ·rw[hst2]
    exact⟨rfl,rfl,rfl,by simp[World.setCell],fun k _ hk=>heap_setCell_other w _ k _ (fun e=>hk (by rw[e]))⟩
   ·show _=((E.lput r.l e (.cb (.tt true) (getF q.l (.lit 0) fo ks))).R U).length
    rw[hR,List.length_set,List.length_set,a3]
   ·have hm:((E.lput r.l e (.cb (.tt true) (getF q.l (.lit 0) fo ks))).R U)[m]? =some row':=hm
    have hzk:(j.addz [(kb,.cells cur q.ty (0,0))]).g.z kb=some (.cells cur q.ty (0,0)):=by simp[J.addz,J.setz,Gh.setz]
    have hold:∀k o,isCl o=true->j.g.z k=some o->(j.addz [(kb,.cells cur q.ty (0,0))]).g.z k=some o:=fun k o _ hko=>by
     by_cases hkk:k=kb
     ·have:=hz k o hko
      rw[hkk,b2] at this
      cases this
      rw[hkk];exact hzk
     ·simp[J.addz,J.setz,Gh.setz,hkk,hko]
    rw[hR] at hm
    show PtIs _ r.ks row' p
    by_cases hmi:(e.I U).toNat=m
    ·rw[<-hmi,List.getElem?_set_self (by omega)] at hm
     rw[<-hmi,List.getElem?_set_self hlt] at hp
     cases hm;cases hp
     refine⟨rfl,⟨kb,fo,rfl⟩,cur,q.ty,hzk,fun c v hc=> ?_⟩
     rw[hks] at hc
     have hc:(rowV ks (row.drop fo))[c]? =some v:=hc
     have hd:=px fo c hin
     rw[hqk] at hd
     rw[<-hd] at hc
     have hfl:(flat q.ks (q.l.R U))[fo+c]? =some v:=by
      obtain⟨L',hL'⟩:∃L',q.l.R U=row::L':=by
       cases hqq:q.l.R U with
       | nil=>rw[hqq] at h0;simp at h0
       | cons z L'=>
         rw[hqq] at hrow0
         simp at hrow0
         exact⟨L',by rw[hrow0]⟩
      rw[hL',dh,thm8 (cf.1 hc).1]
      exact hc
     rw[<-b3,List.getElem?_take] at hfl
     split at hfl
     ·simpa using hfl
     ·cases hfl
    ·rw[List.getElem?_set_ne hmi] at hm hp
     exact(a4 m row' p hm hp).mono hold
  ·exact h2.elim
 ·exact h1.elim
theorem yP (hT:∀t i,(t,i)∈cx.ty->TIok P t i) {t:Nat} {x y:Operand} {kw:Kw} (hop:o.op=.store t x y) {id off:Nat} {r:RowOb} (hx:vw.ev x=some (.one (.ep id r.ks.length (.lit 0) off))) {v:V} (hy:vw.ev y=some v) {i:TI} (hi:az t cx.ty=some i)
  (hr:vw.sw id=some r) (hrown:r.own=true) (hf:v.flat=true) (hn:v.cells.length=i.size) (hoff:off+i.size<=r.ks.length) {row row':E} (hl:r.l=.lq .ln row) (hrg:rngs kw.vk v.cells kw.vk 0=true) (hsp:zK off r.ks row v.cells=some row')
  (h:(k {val:=.one .undef,rr:=[id],re:=.set id {r with l:=.lq .ln row'}} kw).holds sp G U I) (hg:Good sp cx.sm U kw):Sound P sp U G I base cx vw o k kw:=by
 have ht:=hT _ _ (ao hi)
 obtain⟨l',hp1,hp2⟩:=um (U:=U) off v.cells r.ks row row' (.lq .ln row) [] (rngs_ok _ kw.vk 0 rfl hrg) hsp (by simp[E.R])
 simp only[List.length_nil,bt,List.nil_append] at hp1 hp2
 have hR':(E.lq .ln row').R U=l'.R U:=by rw[hp2];simp[E.R]
 refine⟨_,kw,h,hg,.refl _,fun j a w _ hev hrd hwr hrr hfb K Q hK=> ?_⟩
 obtain⟨s,hs,hok⟩:=hrr.sl id (by simp) r hr
 obtain⟨p,hp,he⟩:=yb hs (hev x (by simp[hop,Op.operands]) _ hx)
 have hd:=V.cells_ok (hev y (by simp[hop,Op.operands]) v hy) hf
 have hown:=hok.own hrown
 obtain⟨g,rfl,hsv⟩:=ab6 hown hp
 rw[hsv] at hown
 have hrows:=hok.rows
 rw[hl] at hown hrows
 obtain⟨w',h2,h3,h4,h5,h6⟩:=iy (P:=P) hg.vk (r.ks.drop off) v.cells (.lq .ln row) l' off 0 _ w ((⟨g,0,none⟩:Addr).add (((E.lit 0).I U).toNat*r.ks.length+off)) hp1 hd r.ks (fun m=>by rw[List.getElem?_drop]) hrows (by simp[E.I,E.R]) hown
  (fun m=>by rw[ct,be];congr 1;omega)
 have hsz:(a.eval y).cells.size=i.size:=by
  have:=aM hd
  rw[Array.length_toList,hn] at this
  exact this
 have hn1:s.n=1:=by rw[hok.n,hl];simp[E.R]
 refine vd (w':=w') ?_ (hK _ j w' rfl ⟨rfl,s,hs,?_,RowOk.mk_own (r:={r with l:=.lq .ln row'}) (Vw.sw_some hr).2 (by rw[hn1];simp[E.R]) (by rw[hR'];exact h5) hok.pos (by rw[hsv];simp only;rw[hR'];exact h3),fun e=>by rw[show r.kd=.sl from(Vw.sw_some hr).2] at e;cases e⟩)
 ·simp[execOp,hop,he,Instr.storeAt,Instr.sureAddr,Sem.run_bind,storeVar,ht.size,hsz,h2]
 ·rw[hsv];exact h4
theorem afS (hT:∀t i,(t,i)∈cx.ty->TIok P t i) {c:Call} {kw:Kw} (hop:o.op=.call c) (hc:c.callee=.builtin .clear) {b off n sz l0 l1:Nat} {mx:E} {t:Nat} (hl:evL vw.ev c.args.toList=some [.one (.aw b off n sz (.lit l0) (.lit l1) mx)]) (hty:c.argTypes.toList=[t]) {i:TI} (hi:az t cx.ty=some i) {et:Nat} (ha:i.sle=some et) {ie:TI} (hie:az et cx.ty=some ie)
  (hsz:ie.size=sz) (hlt:l0<l1) (hmx:(mx.I U).toNat≠l0) (hsol:((List.replicate (l1-l0) ie.zero).flatten).all C.solid=true)
  (h:(k {val:=.tup [],wr:=dP b (off+l0*sz) ((List.replicate (l1-l0) ie.zero).flatten)} kw).holds sp G U I) (hg:Good sp cx.sm U kw):Sound P sp U G I base cx vw o k kw:=by
 refine⟨_,kw,h,hg,.refl _,fun j a w _ hev hrd hwr _ _ K Q hK=> ?_⟩
 obtain⟨h1,h2⟩:=iK (j:=j) (a:=a) hl (fun x hx=>hev x (by simp[hop,Op.operands,Call.operands];exact .inr (by simpa using hx)))
 obtain⟨u,hu1,hu2⟩:∃u,c.args.toList.map a.eval=[u]/\(V.one (.aw b off n sz (.lit l0) (.lit l1) mx)).den U j=some u:=by
  match hm:c.args.toList.map a.eval,h2 with
  | [u],_=>exact⟨u,rfl,h1 0 _ u rfl (by rw[hm];rfl)⟩
 have hargs:c.args.map a.eval = #[u]:=by rw[<-Array.toArray_toList (xs:=c.args.map a.eval),Array.toList_map,hu1]
 have hat:c.argTypes = #[t]:=by rw[<-Array.toArray_toList (xs:=c.argTypes),hty]
 have hu:=(hT _ _ (ao hi)).sle et ha
 obtain⟨z,hz,hzd⟩:=(hT _ _ (ao hie)).zero
 obtain⟨inf,z',hinf,hisz,_,hz',hzl,_⟩:=(hT _ _ (ao hie)).info
 simp only[V.den,C.den,thm4] at hu2
 obtain⟨kk,hk,rfl⟩:=hu2
 have hzc:z.cells.size=sz:=by
  have e1:=aM (hzd U j)
  have e2:(zeroValue et).run P w=.ok z' w:=by simp[zeroValue,typeInfo,hinf,hz',Sem.run_bind]
  rw[hz w] at e2
  cases e2
  rw[Array.length_toList] at hzl
  rw[hzl,hsz]
 have hden:denL U j ((List.replicate (l1-l0) ie.zero).flatten)=some (Builtin.zeroCells z.cells (l1-l0)).toList:=by
  have e1:(Builtin.zeroCells z.cells (l1-l0)).toList=(List.replicate (l1-l0) z.cells.toList).flatten:=aci z.cells (l1-l0)
  rw[e1]
  generalize l1-l0=m
  induction m with
  | zero=>rfl
  | succ m ih=>
    simp only[List.replicate_succ,List.flatten_cons]
    exact gF (hzd U j) ih
 obtain⟨w',hw1,hw2⟩:=dA (P:=P) hk ⟨kk,off+l0*sz,none⟩ ((List.replicate (l1-l0) ie.zero).flatten) (off+l0*sz) 0 _ w (fun m=>by rw[bt,be]) hden hsol hwr
 refine ek (w':=w') (v:=.tuple #[]) ?_ (hK _ j w' rfl ⟨rfl,w,.refl w,hw1⟩)
 have hcut:((⟨some ⟨kk,off,none⟩,n,n,[]⟩:SV).cut sz ((E.lit (l0:Int)).I U).toNat ((E.lit (l1:Int)).I U).toNat (mx.I U).toNat).v=.slice (some ⟨kk,off+l0*sz,none⟩) (l1-l0) ((mx.I U).toNat-l0):=by
  have e5:((E.lit (l0:Int)).I U).toNat=l0:=dj l0
  have e6:((E.lit (l1:Int)).I U).toNat=l1:=dj l1
  rw[e5,e6]
  simp only[SV.cut,SV.v]
  rw[if_neg hmx]
  simp only[Option.map_some,be]
 rw[hcut] at hargs
 obtain⟨m,hm⟩:∃m,l1-l0=m+1:=⟨l1-l0-1,by omega⟩
 rw[hm] at hargs hw2
 simp only[execOp,hop,resolve,hc,hargs,hat,Sem.run_bind,Sem.run_pure,Result.andThen_ok,invoke,builtin]
 simp[Builtin.clear_,run_underlying hu,hz,hw2,Sem.run_bind]
def opT (cx:Cx) (vw:Vw) (op:Op) (kw:Kw) (k:Eff->Kw->Tr):Option Tr:=match op with
 | .alloc t=>match az t cx.ty with
   | some i=>if aac cx t then(match ksOf i.zero with
    | some ks=>match rowE kw.vk ks i.zero with
      | some r=>if decide (0<ks.length) then some (k {val:=.one (.ep vw.nid ks.length (.lit 0) 0),re:=.mk [⟨ks,t,.lq .ln r,true,.sl⟩]} kw) else none
      | none=>none
    | none=>none)
     else if aiZ cx t then(match i.zero with
      | .int kd _::_=>if i.zero.all (C.isZk kd)&&decide (i.zero.length<=65536) then some (k {val:=.one (.ep vw.nid 1 (.lit 0) 0),re:=.mk [⟨[some kd],t,.lrep (.lit i.zero.length) (.cons (.lit 0) .nil),true,.sl⟩]} kw) else none
      | _=>none)
     else match apH cx with
      | some (t',ks,st)=>if Nat.beq t t'&&(i.zero.all C.isNilp&&decide (i.zero.length<=65536)) then some (k {val:=.one (.ep vw.nid 1 (.lit 0) 0),re:=.mk [⟨none::ks,st,.lrep (.lit i.zero.length) (rL (none::ks)),true,.tab⟩]} kw) else none
      | none=>none
   | none=>none
 | .box t x=>match vw.ev x with
   | some v=>if aac cx t&&v.flat then(match ksOf v.cells with
    | some ks=>match rowE kw.vk ks v.cells with
      | some r=>if decide (0<ks.length) then some (k {val:=.one (.ep vw.nid ks.length (.lit 0) 0),re:=.mk [⟨ks,t,.lq .ln r,true,.sl⟩]} kw) else none
      | none=>none
    | none=>none) else none
   | none=>none
 | .indexAddr t x y=>match vw.ev x,vw.ev y,az t cx.ty with
   | some (.one (.ep id esz (.lit z) off)),some (.one (.int _ e)),some i=>match i.arr with
     | some (n,et)=>match az et cx.ty with
       | some ie=>if((vw.tabw id).isSome||aiZ cx t)&&Nat.beq esz 1&&(Nat.beq off 0&&(gN z 0&&Nat.beq ie.size 1)) then some (decK (inR e n) (fun ok kw=>if ok then k {val:=.one (.ep id 1 e 0)} kw else .panic) kw) else none
       | none=>none
     | _=>none
   | _,_,_=>none
 | .load t x=>match vw.ev x,az t cx.ty with
   | some (.one (.ep id esz e off)),some i=>match vw.tabw id with
     | some r=>match r.ks with
       | none::ks=>if Nat.beq esz 1&&(Nat.beq off 0&&(!i.agg&&decide (0<ks.length))) then
        some (decK (inB e r.l) (fun ok kw=>if ok then decK (pM (selL r.l e) (selI r.l e) 0) (fun b kw=>if b then k {val:=.one (.ep vw.nid ks.length (.lit 0) 0),rr:=[id],re:=.peek ⟨ks,r.ty,.lq .ln (getF (selL r.l e) (selI r.l e) 1 ks),false,.sl⟩} kw else k {val:=.one .np,rr:=[id]} kw) kw else .stuck 270) kw) else none
       | _=>none
     | none=>none
   | _,_=>none
 | .store t x y=>match vw.ev x,vw.ev y,az t cx.ty with
   | some (.one (.ep id esz e off)),some v,some i=>match vw.tabw id with
     | some r=>match v,r.ks with
       | .one (.ep xid sz (.lit z) fo),none::ks=>match vw.sw xid with
         | some q=>if(Nat.beq esz 1&&(Nat.beq off 0&&(gN z 0&&(Nat.beq i.size 1&&Nat.beq sz q.ks.length))))&&(q.own&&cd (q.ks.drop fo) ks) then
          some (decK (inB e r.l) (fun ok kw=>if ok then decK (inB (.lit 0) q.l) (fun ok kw=>if ok then k {val:=.one .undef,rr:=[xid,id],re:=.tset xid {q with own:=false} id {r with l:=.lput r.l e (.cb (.tt true) (getF q.l (.lit 0) fo ks))}} kw else .stuck 271) kw else .stuck 272) kw) else none
         | none=>none
       | _,_=>none
     | none=>match e,vw.sw id with
       | .lit z,some r=>match r.l with
         | .lq .ln row=>if(aac cx r.ty&&(gN z 0&&(Nat.beq esz r.ks.length&&r.own)))&&(v.flat&&(Nat.beq v.cells.length i.size&&(decide (off+i.size<=esz)&&rngs kw.vk v.cells kw.vk 0))) then
          (match zK off r.ks row v.cells with
          | some row'=>some (k {val:=.one .undef,rr:=[id],re:=.set id {r with l:=.lq .ln row'}} kw)
          | none=>none) else none
         | _=>none
       | _,_=>none
   | _,_,_=>none
 | .call c=>match c.callee with
   | .builtin .clear=>match evL vw.ev c.args.toList,c.argTypes.toList with
     | some [.one (.aw b off n sz (.lit (.ofNat l0)) (.lit (.ofNat l1)) (.lit (.ofNat l2)))],[t]=>match az t cx.ty with
       | some i=>match i.sle with
         | some et=>match az et cx.ty with
           | some ie=>if Nat.beq ie.size sz&&(decide (l0<l1)&&(decide (l0<l2)&&((List.replicate (l1-l0) ie.zero).flatten).all C.solid)) then
            some (k {val:=.tup [],wr:=dP b (off+l0*sz) ((List.replicate (l1-l0) ie.zero).flatten)} kw) else none
           | none=>none
         | none=>none
       | none=>none
     | _,_=>none
   | _=>none
 | _=>none
theorem auo (hT:∀t i,(t,i)∈cx.ty->TIok P t i) {kw:Kw} {tr:Tr} (ht:opT cx vw o.op kw k=some tr) (h:tr.holds sp G U I) (hg:Good sp cx.sm U kw):Sound P sp U G I base cx vw o k kw:=by
 cases hop:o.op<;>rw[hop] at ht<;>simp only[opT] at ht
 case alloc t=>
  split at ht
  ·rename_i i hi
   split at ht
   ·split at ht
    ·rename_i ks hk
     split at ht
     ·rename_i r hr
      split at ht
      ·rename_i hp;cases ht;exact wk hT hop hi hr (thm3 hp) h hg
      ·cases ht
     ·cases ht
    ·cases ht
   ·split at ht
    ·split at ht
     ·rename_i kd _ _ _
      split at ht
      ·rename_i hp
       simp only[thm0,aZ] at hp
       cases ht
       exact wl hT hop hi hp.1 hp.2 h hg
      ·cases ht
     ·cases ht
    ·split at ht
     ·rename_i t' ks st _
      split at ht
      ·rename_i hp
       simp only[thm0,aZ] at hp
       cases ht
       exact wj hT hop hi ks st hp.2.1 hp.2.2 h hg
      ·cases ht
     ·cases ht
  ·cases ht
 case box t x=>
  split at ht
  ·rename_i v hv
   split at ht
   ·rename_i hf
    rw[thm0] at hf
    split at ht
    ·rename_i ks hk
     split at ht
     ·rename_i r hr
      split at ht
      ·rename_i hp;cases ht;exact ac9 hop hv hf.2 hr (thm3 hp) h hg
      ·cases ht
     ·cases ht
    ·cases ht
   ·cases ht
  ·cases ht
 case indexAddr t x y=>
  split at ht
  ·rename_i id esz z off k0 e i hx hy hi
   split at ht
   ·rename_i n et ha
    split at ht
    ·rename_i ie hie
     split at ht
     ·rename_i hp
      simp only[thm0] at hp
      obtain⟨⟨_,p1⟩,p2,p3,p4⟩:=hp
      have p1:=thm1 p1
      have p2:=thm1 p2
      have p3:=dT p3
      subst p1 p2 p3
      cases ht
      exact vW hT hop hx hy hi ha hie (thm1 p4) h hg
     ·cases ht
    ·cases ht
   ·cases ht
  ·cases ht
 case load t x=>
  split at ht
  ·rename_i id esz e off i hx hi
   split at ht
   ·rename_i r hr
    split at ht
    ·rename_i ks hks
     split at ht
     ·rename_i hp
      simp only[thm0,aZ,Bool.not_eq_true'] at hp
      obtain⟨p1,p2,p3,p4⟩:=hp
      have p1:=thm1 p1
      have p2:=thm1 p2
      subst p1 p2
      cases ht
      exact yO hT hop hx hi p3 hr hks p4 h hg
     ·cases ht
    ·cases ht
   ·cases ht
  ·cases ht
 case store t x y=>
  split at ht
  ·rename_i id esz e off v i hx hy hi
   split at ht
   ·rename_i r hr
    split at ht
    ·rename_i xid sz z fo ks hks
     split at ht
     ·rename_i q hq
      split at ht
      ·rename_i hp
       simp only[thm0] at hp
       obtain⟨⟨p1,p2,p3,p4,p5⟩,p6,p7⟩:=hp
       have p1:=thm1 p1
       have p2:=thm1 p2
       have p3:=dT p3
       have p5:=thm1 p5
       subst p1 p2 p3 p5
       cases ht
       exact vV hT hop hx hy hi (thm1 p4) hr hks hq p6 (bV p7) h hg
      ·cases ht
     ·cases ht
    ·cases ht
   ·split at ht
    ·rename_i z r hr
     split at ht
     ·rename_i row hl
      split at ht
      ·rename_i hp
       simp only[thm0,aZ] at hp
       obtain⟨⟨p1,p2,p3,p4⟩,p5,p6,p7,p8⟩:=hp
       have p2:=dT p2
       have p3:=thm1 p3
       subst p2 p3
       split at ht
       ·rename_i row' hsp
        cases ht
        exact yP hT hop hx hy hi hr p4 p5 (thm1 p6) p7 hl p8 hsp h hg
       ·cases ht
      ·cases ht
     ·cases ht
    ·cases ht
  ·cases ht
 case call c=>
  split at ht
  ·rename_i hc
   split at ht
   ·rename_i b off n sz l0 l1 l2 t hl hty
    split at ht
    ·rename_i i hi
     split at ht
     ·rename_i et ha
      split at ht
      ·rename_i ie hie
       split at ht
       ·rename_i hp
        simp only[thm0,aZ] at hp
        obtain⟨p1,p2,p3,p4⟩:=hp
        cases ht
        exact afS hT hop hc hl hty hi ha hie (thm1 p1) p2 (by show(Int.ofNat l2).toNat≠l0;simp;omega) p4 h hg
       ·cases ht
      ·cases ht
     ·cases ht
    ·cases ht
   ·cases ht
  ·cases ht
 all_goals cases ht
def opKT (cx:Cx) (vw:Vw) (op:Op) (kw:Kw) (k:Eff->Kw->Tr):Tr:=match opT cx vw op kw k with
 | some t=>t
 | none=>opKX cx vw op kw k
theorem arP (hT:∀t i,(t,i)∈cx.ty->TIok P t i) (hS:∀s∈cx.sm,SmOk P sp s) (hkeys:∀s∈cx.sm,∀s'∈cx.sm,s.key=s'.key->s=s') {kw:Kw} (h:(opKT cx vw o.op kw k).holds sp G U I) (hg:Good sp cx.sm U kw):Sound P sp U G I base cx vw o k kw:=by
 unfold opKT at h
 split at h
 ·rename_i t ht;exact auo hT ht h hg
 ·exact arO hT hS hkeys h hg
end
end Go.Proofs.YtfkhblmeioiciaaGreatDoor
