import Derived.Test.YtgolejfhoefeaaaGreatDoorAaZ
import Derived.Sort.Row
import Derived.Laws.CopyRow
import Derived.Laws.BytesString
set_option maxRecDepth 100000
set_option maxHeartbeats 8000000
set_option linter.defProp false
set_option linter.unusedVariables false
set_option linter.unusedSimpArgs false
namespace Go.Proofs.YtgolejfhoefeaaaGreatDoor
open Option renaming some->ZA,none->ZE,map_some->YU
open Bool renaming true->ZB,false->ZC,not_eq_true'->ZP
open Sem renaming run_bind->ZI
open Nat renaming beq->ZJ,le_refl->ZK,add_zero->ZS,add_assoc->YW
open List renaming replicate->ZM,nil_append->ZQ,length_cons->YS,mem_cons->YT,mem_append_right->YX,all_cons->ZY
open Option.some renaming inj->ZN
open Go.Instr renaming sureAddr->YY
open Go.RowKit
variable {kw:Kw}{t n et off b BC sz base nid g o0 h m:Nat}{i ie:TI}{e l lo hi:E}{x y:Operand}{j:J}{r q:RowOb}{w w':World}{c:Call}{ks:List CE}{vk:List VK}{U:Env}{k0 kd:IntKind}{v:Value}{s u:SV}{xs:List Value}{ps:Array (Nat×Operand)}{A5:List (Nat×V)}{a:Act}{tr:Tr}
section
variable {P:Program}{sp:Spec}{U:Env}{G:Env->E->Prop}{I:Nat->List Dt->Prop}{base:Nat}{cx:Cx}{vw:Vw}{o:Oper}{k:Eff->Kw->Tr}
def tR{e:E}{n:Nat}{kk:Nat->Kw->Tr}:∀(m:Nat) (kw:Kw),m<=n->(tS e n kk m kw).holds sp G U I->Good sp cx.sm U kw->∃i An,i<n/\e.I U=(i:Int)/\(kk i An).holds sp G U I/\Good sp cx.sm U An/\KwGe An kw
 |0,kw,_,h,hg=>h.elim
 |m+1,kw,hm,h,hg=>by
   simp only[tS]at h;obtain⟨Ch,h1,g1,_,l1⟩:=aS _ _ _ h hg;rw[qh]at h1;split at h1
   .rename_i hb;have Ew:e.I U=((n-(m+1):Nat):Int):=by simpa[E.I]using hb
    exact⟨n-(m+1),Ch,by omega,Ew,h1,g1,l1⟩
   .obtain⟨i,Dy,h2,h3,h4,g2,l2⟩:=tR m Ch Fn h1 g1;exact⟨i,Dy,h2,h3,h4,g2,l2.trans l1⟩
def iI(hT:∀t i,(t,i)∈cx.ty->TIok P t i)(Ad:o.op=.indexAddr t x y){c:C}{c':Nat->C}(hx:vw.ev x=ZA (.one c))(hy:vw.ev y=ZA (.one (.int k0 e)))(hi:am t cx.ty=ZA i)(ha:i.arr=ZA (n,et))(BE:am et cx.ty=ZA ie)(hmv:∀m j v,c.den U j=ZA v->∃a,v=.pointer (ZA a)/\(c' m).den U j=ZA (.pointer (ZA (a.add (m*ie.size)))))(h:(tS e n (fun m kw=>k {val:=.one (c' m)} kw) n kw).holds sp G U I)(hg:Good sp cx.sm U kw):Sound P sp U G I base cx vw o k kw:=by
 obtain⟨m,An,hm,he,h1,g1,l1⟩:=tR n kw (ZK _) h hg;have hu:=(hT _ _ (ab hi)).arr n et ha;have hs:=(hT _ _ (ab BE)).size;refine⟨_,An,h1,g1,l1,OpOk.pure fun j a w _ Av _ _ _=> ?_⟩;obtain⟨p,hp,hd⟩:=hmv m j _ (Av x Or _ hx);have hq:=dh (Av y Or _ hy);refine⟨_,hd,?_⟩;have As:(0:Int)<=(m:Int)/\(m:Int)<(n:Int):=Fn;simp[execOp,Ad,hp,hq,he,Instr.indexAt,run_underlying hu,YY,asIntOf,As,hs,ZI];omega
def ae3(hT:∀t i,(t,i)∈cx.ty->TIok P t i)(Ad:o.op=.index t x y){cs:List C}(hx:vw.ev x=ZA (.agg cs))(hy:vw.ev y=ZA (.one (.int k0 e)))(hi:am t cx.ty=ZA i)(ha:i.arr=ZA (n,et))(BE:am et cx.ty=ZA ie)(h:(tS e n (fun m kw=>match Qa cx et cs (m*ie.size)with|some v=>k {val:=v} kw|none=>.stuck 30) n kw).holds sp G U I)(hg:Good sp cx.sm U kw):Sound P sp U G I base cx vw o k kw:=by
 obtain⟨m,An,hm,he,h1,g1,l1⟩:=tR n kw (ZK _) h hg;have hu:=(hT _ _ (ab hi)).arr n et ha;have hs:=(hT _ _ (ab BE)).size;split at h1
 next v hv=>refine⟨_,An,h1,g1,l1,OpOk.pure fun j a w _ Av _ _ _=> ?_⟩;have hd:=Av x Or _ hx;simp only[V.den,Ay]at hd;obtain⟨vs,EN,hp⟩:=hd;have hq:=dh (Av y Or _ hy);obtain⟨u,JT,hr⟩:=agU hT hv EN w;refine⟨u,JT,?_⟩;have As:(0:Int)<=(m:Int)/\(m:Int)<(n:Int):=Fn;simp[execOp,Ad,<-hp,hq,he,Instr.index,run_underlying hu,asIntOf,As,hs,ZI,hr];omega
 .exact h1.elim
def wY(U:Env)(e l:E):(GF e l).B U=(decide (0<=e.I U)&&decide (e.I U<((l.R U).length:Int))):=by simp only[GF,dQ,di,dq,dP,E.I];rw[bD];rfl
def vr(hT:∀t i,(t,i)∈cx.ty->TIok P t i)(Ad:o.op=.indexAddr t x y){id:Nat}(hx:vw.ev x=ZA (.one (.sl id)))(hy:vw.ev y=ZA (.one (.int k0 e)))(hi:am t cx.ty=ZA i)(ha:i.sle=ZA et)(BE:am et cx.ty=ZA ie)(hr:vw.sw id=ZA r)(CH:r.ks.length=ie.size)(h:(AL (GF e r.l) (fun b kw=>if b then k {val:=.one (.ep id ie.size e 0),rr:=[id]} kw else .panic) kw).holds sp G U I)(hg:Good sp cx.sm U kw):Sound P sp U G I base cx vw o k kw:=by
 obtain⟨An,h1,g1,_,l1⟩:=aS _ _ _ h hg;rw[wY]at h1;split at h1
 .rename_i hb;simp only[ne,aB]at hb;refine⟨_,An,h1,g1,l1,OpOk.pure fun j a w _ Av _ BS _=> ?_⟩;obtain⟨s,hs,Al⟩:=BS.sl id (by simp) r hr;have hd:=Av x Or _ hx;simp only[V.den,C.den,hs,YU,bv]at hd;have hq:=dh (Av y Or _ hy);have hu:=(hT _ _ (ab hi)).sle et ha;have BT:=(hT _ _ (ab BE)).size;obtain⟨sa,sn,sc,sz⟩:=s;have hn:=Al.n;simp only at hn;have By:=Al.rd;cases sa with
  |none=>have:=(By.2.2.2.1 rfl).1;simp only at this;omega
  |some p=>refine⟨.pointer (ZA (p.add ((e.I U).toNat*ie.size+0))),by simp[V.den,C.den,hs,SV.elem],?_⟩;have As:(0:Int)<=e.I U/\e.I U<(sn:Int):=Fn;simp[execOp,Ad,<-hd,SV.v,hq,Instr.indexAt,run_underlying hu,asIntOf,As,BT,ZI]
 .exact h1.elim
def gK{a:Addr}{w:World}:∀(vs:List Value) (i:Nat) (Lx:Array Value),(∀m u,vs[m]? =ZA u->w.cell? (a.add (i+m))=ZA u)->(loadCellsFrom a i vs.length Lx).run P w=.ok (Lx++vs.toArray) w
 |[],i,Lx,_=>by simp[loadCellsFrom]
 |v::vs,i,Lx,h=>by have h0:=h 0 v rfl;simp only[ZS]at h0;simp only[YS,loadCellsFrom,ZI,load,Sem.run,h0,Result.andThen_ok];rw[gK vs (i+1) _ (fun m u hu=>by rw[YW,Nat.add_comm 1 m];exact h (m+1) u X2)];simp
def lJ{j:J}:∀{cs:List C} {vs:List Value},cs.length=vs.length->(∀(m:Nat) c,cs[m]? =ZA c->∃u,vs[m]? =ZA u/\c.den U j=ZA u)->Af U j cs=ZA vs
 |[],vs,hl,_=>by
   cases vs with
   |nil=>rfl
   |cons=>cases hl
 |c::cs,vs,hl,h=>by
   cases vs with
   |nil=>cases hl
   |cons v vs=>obtain⟨u,hu,hd⟩:=h 0 c rfl;simp only[cy,bv]at hu;subst hu;have:=lJ (cs:=cs) (vs:=vs) Yh (fun m c hm=>by simpa using h (m+1) c XT);simp[Af,hd,this]
def jQ{ld:Nat->Nat->Option C}{b:Nat}:∀(n o:Nat) (cs:List C),jR ld b o n=ZA cs->cs.length=n/\∀m c,cs[m]? =ZA c->ld b (o+m)=ZA c
 |0,o,cs,h=>by cases h;exact⟨rfl,fun m c hm=>by simp at hm⟩
 |n+1,o,cs,h=>by
   simp only[jR]at h;cases hc:ld b o with
   |none=>rw[hc]at h;cases h
   |some c=>
     cases hl:jR ld b (o+1) n with
     |none=>rw[hc,hl]at h;cases h
     |some l=>
       rw[hc,hl]at h;cases h;obtain⟨h1,h2⟩:=jQ n (o+1) l hl;refine⟨by simp[h1],fun m c' hm=> ?_⟩;cases m with
       |zero=>simp at hm;subst hm;exact hc
       |succ m=>rw[show o+(m+1)=o+1+m by omega];exact h2 m c' XT
def Tc(h:(V.one (.fp b off)).den U j=ZA v):∃kk,j.f b=ZA kk/\v=.pointer (ZA ⟨kk,off,ZE⟩):=by simp only[V.den,C.den,Ay]at h;obtain⟨kk,hk,rfl⟩:=h;exact⟨kk,hk,rfl⟩
def tq(hT:∀t i,(t,i)∈cx.ty->TIok P t i)(Ad:o.op=.load t x)(hx:vw.ev x=ZA (.one (.fp b off)))(hi:am t cx.ty=ZA i)(Bu:i.agg=ZB){cs:List C}(CT:jR (fun b o=>(vw.fb b).bind (·[o]?)) b off i.size=ZA cs)(Eb:cs.all C.solid=ZB)(h:(k {val:=.agg cs} kw).holds sp G U I)(hg:Good sp cx.sm U kw):Sound P sp U G I base cx vw o k kw:=by
 refine⟨_,kw,h,hg,.refl _,OpOk.pure fun j a w _ Av _ _ Ev=> ?_⟩;have ht:=hT _ _ (ab hi);obtain⟨kk,hk,he⟩:=Tc (Av x Or _ hx);obtain⟨A0,CA⟩:=jQ _ _ _ CT;by_cases h0:i.size=0
 .have Ef:cs=[]:=List.eq_nil_of_length_eq_zero Fn;subst Ef;refine⟨.agg #[],rfl,?_⟩;simp[execOp,Ad,he,Instr.loadAt,YY,ZI,loadVar,ht.agg,Bu,ht.size,loadCells,h0,loadCellsFrom]
 have Qs:∃c0,vw.fb b=ZA c0:=by
  cases hb:vw.fb b with
  |some c0=>exact⟨c0,rfl⟩
  |none=>exfalso;have h1:0<cs.length:=Fn;have:=CA 0 cs[0] (AH h1);simp[hb]at this
 obtain⟨c0,JZ⟩:=Qs;obtain⟨kk',vs,h1,_,h2,h3⟩:=Ev.2 b c0 JZ;rw[hk]at h1;cases h1;have hv:∀m c,cs[m]? =ZA c->∃u,vs[off+m]? =ZA u/\c.den U j=ZA u:=fun m c hm=>by have:=CA m c hm;simp only[JZ,Option.bind_some]at this;exact dH h2 (off+m) c this
 have LK:Af U j cs=ZA ((vs.drop off).take i.size):=by
  refine lJ ?_ (fun m c hm=> ?_)
  .rw[List.length_take,List.length_drop,A0];obtain⟨u,hu,_⟩:=hv (cs.length-1) cs[cs.length-1] (AH Fn);have:=(cZ.1 hu).1;omega
  .obtain⟨u,hu,hd⟩:=hv m c hm;refine⟨u,?_,hd⟩;have As:=(cZ.1 hm).1;rw[List.getElem?_take,if_pos Fn,List.getElem?_drop];exact hu
 have hl:=aR LK;refine⟨_,by simp only[V.den,LK];rfl,?_⟩;have h4:=gK (P:=P) (a:=⟨kk,off,ZE⟩) (w:=w) ((vs.drop off).take i.size) 0 #[] (fun m u hu=>by
  rw[bo,bJ];have As:m<i.size:=by have:=(cZ.1 hu).1;rw[List.length_take]at this;omega
  rw[List.getElem?_take,if_pos As,List.getElem?_drop]at hu;refine h3 _ u hu ?_;have hc:=AH (show m<cs.length by omega);have hg:=CA m _ hc;simp only[JZ,Option.bind_some]at hg;unfold jG;rw[bV,hg];exact Ct.1 Eb _ (List.getElem_mem _))
 rw[hl,A0]at h4;simp[execOp,Ad,he,Instr.loadAt,YY,ZI,loadVar,ht.agg,Bu,ht.size,loadCells,h4]
def tu(hT:∀t i,(t,i)∈cx.ty->TIok P t i)(Ad:o.op=.load t x)(hx:vw.ev x=ZA (.one (.fp b off)))(hi:am t cx.ty=ZA i)(Bu:¬i.agg=ZB){c:C}(hc:(vw.fb b).bind (·[off]?)=ZA c)(Eb:c.solid=ZB)(h:(k {val:=.one c} kw).holds sp G U I)(hg:Good sp cx.sm U kw):Sound P sp U G I base cx vw o k kw:=by
 refine⟨_,kw,h,hg,.refl _,OpOk.pure fun j a w _ Av _ _ Ev=> ?_⟩;have ht:=hT _ _ (ab hi);obtain⟨kk,hk,he⟩:=Tc (Av x Or _ hx);rw[cY]at hc;obtain⟨c0,JZ,hc⟩:=hc;obtain⟨kk',vs,h1,_,h2,h3⟩:=Ev.2 b c0 JZ;rw[hk]at h1;cases h1;obtain⟨u,hu,hd⟩:=dH h2 off c hc;have DF:i.agg=ZC:=YC;have h4:=h3 off u hu (by unfold jG;rw[bV,hc];exact Eb);exact⟨u,hd,by simp[execOp,Ad,he,Instr.loadAt,YY,ZI,loadVar,ht.agg,DF,load,Sem.run,h4]⟩
def xj{id:Nat}(hs:j.s id=ZA s)(h:(V.one (.ep id BC e off)).den U j=ZA v):∃a,s.a=ZA a/\v=.pointer (ZA (a.add ((e.I U).toNat*BC+off))):=by simp only[V.den,C.den,hs,Option.bind_some,SV.elem,Ay]at h;obtain⟨a,ha,rfl⟩:=h;exact⟨a,ha,rfl⟩
def tM(U:Env)(j:J)(l e:E)(c:Nat)(k:CE):(H7 l e c k).den U j=ZA (ko k (gt (l.R U) (e.I U) c)):=by cases k<;>simp[H7,C.den,ko,yN,ub]
def wo{l e:E}:∀{ks:List CE} {c0 m:Nat} {c:C},(kU l e c0 ks)[m]? =ZA c->∃k,ks[m]? =ZA k/\c=H7 l e (c0+m) k
 |[],c0,m,c,h=>by simp[kU]at h
 |k::ks,c0,m,c,h=>by
   cases m with
   |zero=>simp[kU]at h;exact⟨k,rfl,h.symm⟩
   |succ m=>obtain⟨k',h1,h2⟩:=wo (ks:=ks) (c0:=c0+1) (m:=m) (by simpa[kU]using h);exact⟨k',by simpa using h1,by rw[h2];congr 1;omega⟩
def nY(l e:E):∀(ks:List CE) (c0:Nat),(kU l e c0 ks).length=ks.length
 |[],_=>rfl
 |k::ks,c0=>by simp[kU,nY l e ks]
def ae1(hT:∀t i,(t,i)∈cx.ty->TIok P t i)(Ad:o.op=.load t x){id:Nat}(hx:vw.ev x=ZA (.one (.ep id BC e off)))(hi:am t cx.ty=ZA i)(hr:vw.sw id=ZA r)(CH:r.ks.length=BC)(OK:off+i.size<=BC)
  (h:(AL (GF e r.l) (fun b kw=>if b then
      (if i.agg then k {val:=.agg (VC r.l e off ((r.ks.drop off).take i.size)),rr:=[id]} kw
      else match r.ks[off]? with
       |some ck=>k {val:=.one (H7 r.l e off ck),rr:=[id]} kw
       |none=>.stuck 53)
      else .stuck 54) kw).holds sp G U I) (hg:Good sp cx.sm U kw):Sound P sp U G I base cx vw o k kw:=by
 simp only[agz]at h;obtain⟨An,h1,g1,_,l1⟩:=aS _ _ _ h hg;rw[wY]at h1;have ht:=hT _ _ (ab hi);split at h1
 .rename_i hb;simp only[ne,aB]at hb;have cells:∀{j:J} {w:World} {s:SV} {p:Addr},SlOk U base w s r->s.a=ZA p->∀c ck,r.ks[c]? =ZA ck->w.cell? (p.add ((e.I U).toNat*BC+c))=ZA (ko ck (gt (r.l.R U) (e.I U) c)):=by
   intro j w s p Al hp c ck Ea;have:=mJ Ea (i:=(e.I U).toNat) Al.rows.row Fn;rw[CH]at this;exact Al.rd.2.2.2.2 p hp _ _ this
  split at h1
  .rename_i Bu;refine⟨_,An,h1,g1,l1,OpOk.pure fun j a w _ Av _ BS _=> ?_⟩;obtain⟨s,hs,Al⟩:=BS.sl id (by simp) r hr;obtain⟨p,hp,he⟩:=xj hs (Av x Or _ hx);have Kp:((r.ks.drop off).take i.size).length=i.size:=by rw[List.length_take,List.length_drop];omega
   have LK:Af U j (kU r.l e off ((r.ks.drop off).take i.size))=ZA ((List.range i.size).map fun m=>ko ((r.ks[off+m]?).getD ZE) (gt (r.l.R U) (e.I U) (off+m))):=by
    refine lJ (by rw[nY,Kp];simp) (fun m c hm=> ?_);obtain⟨ck,Ea,rfl⟩:=wo hm;have Hy:m<i.size:=by have:=(cZ.1 Ea).1;omega
    rw[List.getElem?_take,if_pos Hy,List.getElem?_drop]at Ea;refine⟨_,?_,tM U j _ _ _ _⟩;simp[Hy,Ea]
   refine⟨_,by simp only[V.den,LK];rfl,?_⟩;have h4:=gK (P:=P) (a:=p.add ((e.I U).toNat*BC+off)) (w:=w) ((List.range i.size).map fun m=>ko ((r.ks[off+m]?).getD ZE) (gt (r.l.R U) (e.I U) (off+m))) 0 #[] (fun m u hu=>by
    rw[bJ,bU,YW];have Hy:m<i.size:=by have:=(cZ.1 hu).1;simpa using this
    obtain⟨ck,Ea⟩:∃ck,r.ks[off+m]? =ZA ck:=⟨_,AH Fn⟩
    have:=cells (j:=j) Al hp (off+m) ck Ea;simp[Hy,Ea]at hu;rw[this,hu])
   simp only[List.length_map,List.length_range]at h4;simp[execOp,Ad,he,Instr.loadAt,YY,ZI,loadVar,ht.agg,Bu,ht.size,loadCells,h4]
  .rename_i Bu;split at h1
   next ck Ea=>refine⟨_,An,h1,g1,l1,OpOk.pure fun j a w _ Av _ BS _=> ?_⟩;obtain⟨s,hs,Al⟩:=BS.sl id (by simp) r hr;obtain⟨p,hp,he⟩:=xj hs (Av x Or _ hx);have h4:=cells (j:=j) Al hp off ck Ea;have DF:i.agg=ZC:=YC;exact⟨_,tM U j _ _ _ _,by simp[execOp,Ad,he,Instr.loadAt,YY,ZI,loadVar,ht.agg,DF,load,Sem.run,h4]⟩
   .exact h1.elim
 .exact h1.elim
def abj{ty:Nat}(h:w.ownsRow base ty BC s.v s.n xs){p:Addr}(hp:s.a=ZA p):∃g,p=⟨g,0,ZE⟩/\s.v=.slice (ZA ⟨g,0,ZE⟩) s.n s.c:=by
 rcases h.2 with⟨hv,_⟩|⟨g,Hp,cur,hv,_⟩
 .simp only[SV.v,hp]at hv;cases hv
 .simp only[SV.v,hp,Value.slice.injEq,bv]at hv;exact⟨g,hv.1,by simp only[SV.v,hp,hv.1]⟩
def aeQ{L:LL}{c:Nat}{k:CE}(hk:ks[c]? =ZA k){x:Int}(hx:Dn k x=ZB)(h:RowsIn ks L)(i:Int):RowsIn ks (st L i c x):=by
 refine⟨fun r hr=> ?_,by rw[ix];exact h.len⟩;rcases wM hr with hr|⟨r0,G5,rfl⟩
 .exact h.row r hr
 .exact pQ (h.row r0 G5) hk hx
def jO{ty g n Hp:Nat}{e:E}{j:J}{vk:List VK}(hv:Vk U vk):∀(ks0:List CE) (cs:List C) (l l':E) (off i0:Nat) (vs:List Value) (w:World) (p:Addr),
  fX vk l e off ks0 cs=ZA l'->Af U j cs=ZA vs->∀ks:List CE,(∀m:Nat,ks0[m]? =ks[off+m]?)->RowsIn ks (l.R U)->(e.I U).toNat<(l.R U).length->w.ownsRow base ty ks.length (.slice (ZA ⟨g,0,ZE⟩) n Hp) n (flat ks (l.R U))->(∀m,p.add (i0+m)=⟨g,(e.I U).toNat*ks.length+(off+m),ZE⟩)->
  ∃w',(storeCells p vs i0).run P w=.ok () w'/\w'.ownsRow base ty ks.length (.slice (ZA ⟨g,0,ZE⟩) n Hp) n (flat ks (l'.R U))/\w.grownBy w' (ZA g)/\RowsIn ks (l'.R U)/\(l'.R U).length=(l.R U).length
 |ks0,[],l,l',off,i0,vs,w,p,hput,hd,ks,BG,AY,hi,AK,hp=>by
   have e1:l'=l:=by
    unfold fX at hput;cases ks0 with
    |nil=>exact(ZN hput).symm
    |cons k ks0=>cases k<;>exact(ZN hput).symm
   subst e1;cases hd;exact⟨w,by simp[storeCells],AK,⟨rfl,rfl,rfl,ZK _,fun _ _ _=>rfl⟩,AY,rfl⟩
 |[],c::cs,l,l',off,i0,vs,w,p,hput,hd,ks,BG,AY,hi,AK,hp=>by simp[fX]at hput
 |k::ks0,c::cs,l,l',off,i0,vs,w,p,hput,hd,ks,BG,AY,hi,AK,hp=>by
   simp only[Af]at hd;cases hc:c.den U j with
   |none=>rw[hc]at hd;cases hd
   |some v=>
     cases hl:Af U j cs with
     |none=>rw[hc,hl]at hd;cases hd
     |some us=>
       rw[hc,hl]at hd;cases hd;have hk:ks[off]? =ZA k:=by have:=BG 0;simpa using this.symm
       have hn:(flat ks (l.R U)).length=(l.R U).length*ks.length:=bP AY.row;have CV:off<ks.length:=(cZ.1 hk).1;have step:∀(x:Int) (l1:E),v=ko k x->Dn k x=ZB->l1.R U=st (l.R U) (e.I U) off x->fX vk l1 e (off+1) ks0 cs=ZA l'->
        ∃w',(storeCells p (v::us) i0).run P w=.ok () w'/\w'.ownsRow base ty ks.length (.slice (ZA ⟨g,0,ZE⟩) n Hp) n (flat ks (l'.R U))/\w.grownBy w' (ZA g)/\RowsIn ks (l'.R U)/\(l'.R U).length=(l.R U).length:=by
        intro x l1 Np hx Gz RS;have Rq:(flat ks (l.R U)).set ((e.I U).toNat*ks.length+off) (ko k x)=flat ks (l1.R U):=by rw[Gz];exact abW hk x AY.row hi
        have As:(e.I U).toNat*ks.length+off<n*ks.length:=by have h1:=AK.1;rw[hn]at h1;have h2:((e.I U).toNat+1)*ks.length<=(l.R U).length*ks.length:=Nat.mul_le_mul_right _ hi;rw[Nat.succ_mul]at h2;omega
        have BB:∃u,w.cell? ⟨g,(e.I U).toNat*ks.length+off,ZE⟩=ZA u:=by
         have h1:=AK.cellAt _ As;have h2:(e.I U).toNat*ks.length+off<(flat ks (l.R U)).length:=by rw[AK.1];exact As
         exact⟨_,by rw[h1,AH h2]⟩
        obtain⟨u,hu⟩:=BB;have J8:=AK.frozenAt ((e.I U).toNat*ks.length+off);obtain⟨h3,h4⟩:=AK.stored ((e.I U).toNat*ks.length+off) v;rw[Np,Rq]at h3;have Kv:=hp 0;simp only[ZS]at Kv;have IY:v.oneCell'=ZB:=by rw[Np];cases k<;>rfl
        obtain⟨w',h5,h6,h7,h8,h9⟩:=jO hv ks0 cs l1 l' (off+1) (i0+1) us (w.setCell ⟨g,(e.I U).toNat*ks.length+off,ZE⟩ v) p RS hl ks (fun m=>by have:=BG (m+1);simpa[YW,Nat.add_comm 1 m]using this)
         (by rw[Gz];exact aeQ hk hx AY _) (by rw[Gz,ix];exact hi) (by rw[Np];exact h3) (fun m=>by rw[YW,Nat.add_comm 1 m,hp (m+1)];congr 1;omega)
        refine⟨w',?_,h6,h4.trans h7,h8,by rw[h9,Gz,ix]⟩;simp only[storeCells,Kv,ZI,run_store P w _ v _ IY,hu,J8,Result.andThen_ok,Bool.false_eq_true,if_false];exact h5
       cases k with
       |none=>
         cases c<;>simp only[fX]at hput<;>first|cases hput|skip
         rename_i x;have Np:v=.bool (x.B U):=(ZN hc).symm;exact step (AE (x.B U)) _ (by rw[Np];simp only[ko];cases x.B U<;>rfl) (aiV _) rfl hput
       |some kd=>
         cases c<;>simp only[fX]at hput<;>first|cases hput|skip
         rename_i k' x;split at hput
         next HS=>simp only[ne]at HS;have Np:v=.int k' (x.I U):=(ZN hc).symm;exact step (x.I U) _ (by rw[Np,ar HS.1];rfl) (E.rng_ok hv x HS.2) rfl hput
         .cases hput
def acz(hT:∀t i,(t,i)∈cx.ty->TIok P t i)(Ad:o.op=.store t x y){id:Nat}(hx:vw.ev x=ZA (.one (.ep id BC e off))){v:V}(hy:vw.ev y=ZA v)(hi:am t cx.ty=ZA i)
   (hr:vw.sw id=ZA r) (Ld:r.own=ZB) (CH:r.ks.length=BC) (hf:v.flat=ZB) (hn:v.cells.length=i.size) (OK:off+i.size<=BC)
  (h:(AL (GF e r.l) (fun b kw=>if b then
      (match fX kw.vk r.l e off (r.ks.drop off) v.cells with
       |some l=>k {val:=.one .undef,rr:=[id],re:=.set id {r with l:=l}} kw
       |none=>.stuck 57)
      else .stuck 58) kw).holds sp G U I) (hg:Good sp cx.sm U kw):Sound P sp U G I base cx vw o k kw:=by
 obtain⟨An,h1,g1,_,l1⟩:=aS _ _ _ h hg;rw[wY]at h1;have ht:=hT _ _ (ab hi);split at h1
 .rename_i hb;simp only[ne,aB]at hb;split at h1
  .rename_i l hl;refine⟨_,An,h1,g1,l1,fun j a w _ Av By Cb BS Ev K Q hK=> ?_⟩;obtain⟨s,hs,Al⟩:=BS.sl id (by simp) r hr;obtain⟨p,hp,he⟩:=xj hs (Av x Or _ hx);have hd:=V.cells_ok (Av y Or v hy) hf;have AK:=Al.own Ld;obtain⟨g,rfl,Ku⟩:=abj AK hp;rw[Ku]at AK;obtain⟨w',h2,h3,h4,h5,h6⟩:=jO (P:=P) g1.vk (r.ks.drop off) v.cells r.l l off 0 _ w ((⟨g,0,ZE⟩:Addr).add ((e.I U).toNat*BC+off)) hl hd r.ks (fun m=>by rw[List.getElem?_drop]) Al.rows Fn AK
    (fun m=>by rw[bU,bo,CH];congr 1;omega)
   have BT:(a.eval y).cells.size=i.size:=by have:=aR hd;rw[Array.length_toList,hn]at this;exact this
   refine uL (w':=w') ?_ (hK _ j w' rfl ⟨rfl,s,hs,?_,RowOk.mk_own (r:={r with l:=l}) (Vw.sw_some hr).2 (by rw[Al.n];exact h6.symm) h5 Al.pos (by rw[Ku];exact h3),fun e=>by rw[show r.kd=.sl from(Vw.sw_some hr).2]at e;cases e⟩)
   .simp[execOp,Ad,he,Instr.storeAt,YY,ZI,storeVar,ht.size,BT,h2]
   .rw[Ku];exact h4
  .exact h1.elim
 .exact h1.elim
end
section
variable {P:Program}{sp:Spec}{U:Env}{G:Env->E->Prop}{I:Nat->List Dt->Prop}{base:Nat}{cx:Cx}{vw:Vw}{o:Oper}{k:Eff->Kw->Tr}
def tD:List Value->Nat->List Value->List Value
 |cs,_,[]=>cs
 |cs,off,v::r=>tD (cs.set off v) (off+1) r
def vF{j:J}:∀{vs:List C} {us:List Value} {cs:List C} {ws:List Value} {off:Nat},Af U j vs=ZA us->Af U j cs=ZA ws->Af U j (kX cs off vs)=ZA (tD ws off us)
 |[],us,cs,ws,off,h,h'=>by cases h;exact h'
 |v::vs,us,cs,ws,off,h,h'=>by
   simp only[Af]at h;cases hc:v.den U j with
   |none=>rw[hc]at h;cases h
   |some u=>
     cases hl:Af U j vs with
     |none=>rw[hc,hl]at h;cases h
     |some l=>rw[hc,hl]at h;cases h;exact vF (vs:=vs) (us:=l) hl (uy h' off v u hc)
def xe(off:Nat):∀(l:List Value) (m:Nat) (cells:Array Value),((l.zipIdx m).foldl (fun cs (p:Value×Nat)=>cs.setIfInBounds (off+p.2) p.1) cells).toList=tD cells.toList (off+m) l
 |[],m,cells=>rfl
 |v::l,m,cells=>by simp only[List.zipIdx_cons,List.foldl_cons];rw[xe off l (m+1)];simp[tD,YW]
def qs{j:J}{pl:Nat->Option (Nat×Nat)}:∀(A5:List (Nat×V)) (cs Gu:List C) (us:List (Nat×Value)) (cells:Array Value),qY pl cs A5=ZA Gu->Af U j cs=ZA cells.toList->(A5.map (·.1)=us.map (·.1))->
  (∀(i:Nat) p u,A5[i]? =ZA p->us[i]? =ZA u->p.2.den U j=ZA u.2)->∃G8,Instr.fill pl cells us=ZA G8/\Af U j Gu=ZA G8.toList
 |[],cs,Gu,us,cells,h,hd,hm,hu=>by
   cases us with
   |nil=>cases h;exact⟨cells,rfl,hd⟩
   |cons _ _=>simp at hm
 |(i,v)::A5,cs,Gu,us,cells,h,hd,hm,hu=>by
   cases us with
   |nil=>simp at hm
   |cons u us=>
     obtain⟨i',u⟩:=u;simp only[List.map_cons,Be]at hm;obtain⟨rfl,hm⟩:=hm;simp only[qY]at h;split at h
     .rename_i off size hp;split at h
      .rename_i hc;simp only[ne,aB]at hc;obtain⟨h1,h2,h3⟩:=hc;have hv:=hu 0 _ _ rfl rfl;have KF:=V.cells_ok hv h1;have Gz:=aR KF;have HC:=aR hd;rw[Ak h2]at Gz;simp only[Array.length_toList]at Gz HC;have AV:Af U j (kX cs off v.cells)=ZA ((u.cells.zipIdx.foldl (fun cs (p:Value×Nat)=>cs.setIfInBounds (off+p.2) p.1) cells)).toList:=by
        rw[<-Array.foldl_toList,Array.toList_zipIdx,xe];exact vF KF hd
       obtain⟨G8,h5,h6⟩:=qs A5 _ Gu us _ h AV hm (fun i p w PV hw=>hu (i+1) p w (by simpa using PV) (by simpa using hw));refine⟨G8,?_,h6⟩;unfold Instr.fill;have QU:¬(u.cells.size≠size||decide (off+u.cells.size>cells.size))=ZB:=XC;simp only[hp];rw[if_neg QU];exact h5
      .exact Xo
     .exact Xo
def Wp{ev:Operand->Option V}{j:J}{a:Act}:∀{l:List (Nat×Operand)} {vs:List (Nat×V)},K8 ev l=ZA vs->(∀x∈l.map (·.2),∀v,ev x=ZA v->v.den U j=ZA (a.eval x))->
  vs.map (·.1)=(l.map fun p=>(p.1,a.eval p.2)).map (·.1)/\∀(i:Nat) p u,vs[i]? =ZA p->(l.map fun p=>(p.1,a.eval p.2))[i]? =ZA u->p.2.den U j=ZA u.2
 |[],vs,h,Av=>by cases h;exact⟨rfl,fun i p u hp=>by simp at hp⟩
 |(n,x)::l,vs,h,Av=>by
   simp only[K8]at h;cases hc:ev x with
   |none=>rw[hc]at h;cases h
   |some v=>
     cases hl:K8 ev l with
     |none=>rw[hc,hl]at h;cases h
     |some us=>
       rw[hc,hl]at h;cases h;obtain⟨h1,h2⟩:=Wp (a:=a) (j:=j) hl (fun y hy=>Av y (cM _ hy));refine⟨by simp[h1],fun i p u hp hu=> ?_⟩;cases i with
       |zero=>simp at hp hu;subst hp hu;exact Av x bR v hc
       |succ i=>exact h2 i p u (by simpa using hp) X2
def oH(z:Array Value)(n:Nat):(madeCells z (n*z.size)).toList=(ZM n z.toList).flatten:=by
 have hf:(madeCells z (n*z.size)).toList=(List.range (n*z.size)).map (fun i=>z[i % z.size]!):=by simp[madeCells]
 rw[hf];clear hf
 induction n with
 |zero=>simp
 |succ n ih=>
   rw[Nat.succ_mul,List.range_add,List.map_append,ih,List.replicate_succ',List.flatten_concat];congr 1;apply List.ext_getElem?;intro i;by_cases hi:i<z.size
   .have:(n*z.size+i) % z.size=i:=by rw[Nat.add_comm,Nat.add_mul_mod_self_right,Nat.mod_eq_of_lt hi]
    simp[hi,this]
   .simp[hi]
def tL{j:J}{vk:List VK}(hv:Vk U vk):∀{ks:List CE} {cs:List C} {r:E} {vs:List Value},cs.all (C.rng vk)=ZB->PM ks cs=ZA r->Af U j cs=ZA vs->vs=Bi ks (r.L U)/\av ks (r.L U)=ZB
 |[],[],r,vs,_,h,hd=>by cases h;cases hd;exact⟨rfl,rfl⟩
 |some k::ks,.int k' x::cs,r,vs,hr,h,hd=>by
   simp only[PM]at h;simp only[ZY,ne]at hr;split at h
   .rename_i hk;rw[Ay]at h;obtain⟨t,ht,rfl⟩:=h;simp only[Af,C.den]at hd;cases hl:Af U j cs with
    |none=>rw[hl]at hd;cases hd
    |some us=>rw[hl]at hd;cases hd;obtain⟨h1,h2⟩:=tL hv hr.2 ht hl;refine⟨by simp only[E.L,Bi,ko];rw[h1,ar hk],?_⟩;simp only[E.L,av,Dn,ne];exact⟨E.rng_ok hv x (by have h9:x.rng vk k'=ZB:=hr.1;rw[ar hk]at h9;exact h9),h2⟩
   .exact Xo
 |none::ks,.bool x::cs,r,vs,hr,h,hd=>by
   simp only[ZY,ne]at hr;simp only[PM,Ay]at h;obtain⟨t,ht,rfl⟩:=h;simp only[Af,C.den]at hd;cases hl:Af U j cs with
   |none=>rw[hl]at hd;cases hd
   |some us=>rw[hl]at hd;cases hd;obtain⟨h1,h2⟩:=tL hv hr.2 ht hl;refine⟨by simp only[E.L,Bi,ko];rw[h1];congr 2;cases x.B U<;>rfl,?_⟩;simp only[E.L,av,ne];exact⟨aiV _,h2⟩
def ny(hv:Vk U vk){cs:List C}{r:E}{vs:List Value}(h:Gc vk ks cs=ZA r)(hd:Af U j cs=ZA vs):vs=Bi ks (r.L U)/\av ks (r.L U)=ZB:=by
 unfold Gc at h;cases hr:Ft vk cs vk 0 with
 |false=>rw[hr]at h;cases h
 |true=>rw[hr]at h;exact tL hv (rngs_ok cs vk 0 rfl hr) h hd
def aa3{j:J}{vk:List VK}(hv:Vk U vk){ks:List CE}:∀(n:Nat) {cs:List C} {l:E} {vs:List Value},PQ vk ks n cs=ZA l->Af U j cs=ZA vs->vs=flat ks (l.R U)/\(l.R U).length=n/\∀r∈l.R U,av ks r=ZB
 |0,[],l,vs,h,hd=>by cases h;cases hd;exact⟨rfl,rfl,fun r hr=>by cases hr⟩
 |0,_::_,l,vs,h,hd=>by simp[PQ]at h
 |n+1,cs,l,vs,h,hd=>by
   simp only[PQ]at h;split at h
   .rename_i r l' hr hl;cases h;obtain⟨h1,h2⟩:=ny hv hr (mN hd _);obtain⟨h3,h4,h5⟩:=aa3 hv n hl (kl hd _);rw[aiz,cH,<-h1,<-h3];refine⟨by rw[List.take_append_drop],by simp[h4],fun x hx=> ?_⟩;rcases YT.1 hx with rfl|hx
    .exact h2
    .exact h5 x hx
   .exact Xo
def yW:CR ks≠.tab:=by rcases cC ks with⟨_,h⟩|⟨_,h⟩<;>rw[h]<;>simp
def Ext.of_grown(h:w.grownBy w' ZE):Ext w w':=Below.grown (Ext.refl w) h (ZK _) (fun k hk=>by cases hk)
def od{v:V}(hx:Ext w w')(hr:RowOk U w.heap.size w' u r)(ho:r.own=ZB){eff:Eff}(he:eff={val:=v,rd:=eff.rd,rr:=eff.rr,re:=.mk [r]})(hz:u.z=[]:=by first|rfl|assumption)(ht:r.kd=.tab->∀jj,TbAt U jj w' u r:=by first|(intro h;cases h;done)|(intro h;exact absurd h yW)):N9 U base nid eff j w (j.putL nid [u]) w':=by
 rw[he];refine⟨hx,[u],rfl,fun i u' r' h1 h2=> ?_,fun i i' u1 u2 k h1 h2 _ _=> ?_,fun u' JT=>NewZ.nil (by rw[dv.1 JT];exact hz),by simp[hz,J.addzs]⟩
 .cases i with
  |zero=>simp at h1 h2;subst h1 h2;exact⟨hr,ho,ht⟩
  |succ i=>simp at h1
 .cases i with
  |zero=>
    cases i' with
    |zero=>rfl
    |succ i'=>simp at h2
  |succ i=>simp at h1
def T5:(V.one (.sl nid)).den U (j.putL nid [u])=ZA u.v:=by simp[V.den,C.den,J.putL]
def aoZ:(V.one (.sl nid)).den U (j.putS nid u)=ZA u.v:=by simp[V.den,C.den,J.putS]
def qT(hT:∀t i,(t,i)∈cx.ty->TIok P t i)(Ad:o.op=.buildSlice t n ps)(Gy:K8 vw.ev ps.toList=ZA A5)(hi:am t cx.ty=ZA i)(ha:i.sle=ZA et)(BE:am et cx.ty=ZA ie){cs:List C}(En:qY (fun m=>ZA (m*ie.size,ie.size)) ((ZM n ie.zero).flatten) A5=ZA cs)(hl:PQ kw.vk ks n cs=ZA l)(hq:n*ie.size<=16777216/\0<ie.size/\ks.length=ie.size)(h:(k {val:=.one (.sl vw.nid),re:=.mk [⟨ks,et,l,ZB,.sl⟩]} kw).holds sp G U I)(hg:Good sp cx.sm U kw):Sound P sp U G I base cx vw o k kw:=by
 refine⟨_,kw,h,hg,.refl _,fun j a w hb Av By Cb BS Ev K Q hK=> ?_⟩;obtain⟨h1,h2⟩:=Wp (a:=a) (j:=j) Gy (fun x hx=>Av x (by
  simp only[Ad,Op.operands];simpa using hx))
 have h3:(ps.map fun p=>(p.1,a.eval p.2)).toList=ps.toList.map fun p=>(p.1,a.eval p.2):=Array.toList_map ..;have hx:execOp a.eval o=(do let v <-Instr.buildSlice t n (ps.map fun p=>(p.1,a.eval p.2));pure (.value v)):=by simp only[execOp,Ad]
 have hu:=(hT _ _ (ab hi)).sle et ha;have Nj:=hT _ _ (ab BE);have BT:=Nj.size;obtain⟨CL,z,C4,CC,_,hz,Ib,I7⟩:=Nj.info;have Jt:z.cells.size=ie.size:=by simpa using Ib
 have zer:Af U j ((ZM n ie.zero).flatten)=ZA (madeCells z.cells (n*ie.size)).toList:=by
  rw[<-Jt,oH];have:∀n,Af U j ((ZM n ie.zero).flatten)=ZA ((ZM n z.cells.toList).flatten):=by
   intro n
   induction n with
   |zero=>rfl
   |succ n ih=>simp only[List.replicate_succ,List.flatten_cons];exact gr (I7 U j) ih
  exact this n
 obtain⟨cells,h4,h5⟩:=qs (j:=j) A5 _ cs _ (madeCells z.cells (n*ie.size)) En zer h1 h2;obtain⟨h6,h7,h8⟩:=aa3 hg.vk n hl h5;have KH:n<=maxLen:=by have:n*1<=n*ie.size:=Nat.mul_le_mul_left n hq.2.1;simp only[maxLen];omega
 have CT:cells.size=n*ks.length:=by have:=congrArg List.length h6;rw[bP h8,h7]at this;simpa using this
 have own:=World.ownsRow_lit (base:=w.heap.size) (e:=et) (size:=ks.length) w cells n (ZK _) KH CT;rw[h6]at own;refine dT (w':=w.alloc (.cells cells et)) (v:=(⟨ZA ⟨w.heap.size,0,ZE⟩,n,n,[]⟩:SV).v) ?_ (hK _ (j.putL vw.nid [⟨ZA ⟨w.heap.size,0,ZE⟩,n,n,[]⟩]) _ T5 (od (Ext.of_grown (World.grownBy_alloc w _ ZE)) (RowOk.mk_own rfl h7.symm ⟨h8,by rw[h7];exact KH⟩ (by simp only;omega) own) rfl rfl));rw[hx];have Ed:¬(16777216<n*ie.size):=Fn;by_cases Qb:n*ie.size=0
 .have hn:n=0:=by
   rcases Nat.mul_eq_zero.1 Qb with h|h
   .exact h
   .exact Fn
  subst hn;have R3:Instr.fill (fun m=>ZA (m*ie.size,ie.size)) #[] (ps.toList.map fun p=>(p.1,a.eval p.2))=ZA cells:=by rw[<-h4];congr 1;simp[madeCells]
  simp[Instr.buildSlice,ZI,run_underlying hu,BT,h3,Array.range_zero',R3,newRow,SV.v]
 .simp only[madeCells]at h4;simp[Instr.buildSlice,ZI,run_underlying hu,BT,h3,Ed,Qb,zeroValue,typeInfo,C4,hz,h4,newRow,SV.v]
def tk(hT:∀t i,(t,i)∈cx.ty->TIok P t i)(Ad:o.op=.makeSlice t x y){k1 k2:IntKind}{e':E}(hx:vw.ev x=ZA (.one (.int k1 e)))(hy:vw.ev y=ZA (.one (.int k2 e')))(hi:am t cx.ty=ZA i)(ha:i.sle=ZA et)(BE:am et cx.ty=ZA ie)
   {r:E} (hr:Gc kw.vk ks ie.zero=ZA r) (hq:e.same e'=ZB/\0<ie.size/\ks.length=ie.size/\ie.bytes<=65536)
  (h:(AL (Bt e (.p 0)) (fun b kw=>if b then .panic else AL (Bt e (.p EO)) (fun b kw=>if b then
         k {val:=.one (.sl vw.nid),re:=.mk [⟨ks,et,.lrep e r,ZB,.sl⟩]} kw else .panic) kw) kw).holds sp G U I) (hg:Good sp cx.sm U kw):Sound P sp U G I base cx vw o k kw:=by
 have Qo:=hg.vk;obtain⟨Ch,h1,g1,_,l1⟩:=aS _ _ _ h hg;rw[dq]at h1;split at h1
 .exact h1.elim
 rename_i hneg;obtain⟨Dy,h2,g2,_,l2⟩:=aS _ _ _ h1 g1;rw[dq]at h2;split at h2
 .rename_i Ed;have S5:0<=e.I U:=by
   have h3:¬e.I U<0:=Ab (Bool.eq_false_iff.2 hneg);omega
  have K2:e.I U<1073741824:=Ah Ed;have hes:=E.same_eq hq.1;rw[<-hes]at hy;refine⟨_,Dy,h2,g2,l2.trans l1,fun j a w hb Av By Cb BS Ev K Q hK=> ?_⟩;have KG:=dh (Av x Or _ hx);have MT:=dh (Av y Or _ hy);have hu:=(hT _ _ (ab hi)).sle et ha;have Nj:=hT _ _ (ab BE);obtain⟨CL,z,C4,CC,EJ,hz,Ib,I7⟩:=Nj.info;obtain⟨h6,h7⟩:=ny Qo hr (I7 U j);have hN:((e.I U).toNat:Int)=e.I U:=Int.toNat_of_nonneg S5;have As:(e.I U).toNat<1073741824:=Fn;have KH:(e.I U).toNat<=maxLen:=Yg;have MF:CL.bytes*(e.I U).toNat<=281474976710656:=by have:CL.bytes*(e.I U).toNat<=65536*1073741824:=Nat.mul_le_mul Fn Fn;omega
  obtain⟨w',h3,h4,h5⟩:=run_make_full (P:=P) w w.heap.size t et CL z ie.size hu C4 hz CC k1 k2 (e.I U).toNat MF KH (ZK _);have Jt:z.cells.size=ie.size:=by simpa using Ib
  have Rl:(madeCells z.cells ((e.I U).toNat*ie.size)).toList=flat ks ((E.lrep e r).R U):=by rw[<-Jt,oH,h6];simp[E.R,flat,List.flatMap_replicate]
  rw[Rl,<-hq.2.2.1]at h4;have A0:((E.lrep e r).R U).length=(e.I U).toNat:=by simp[E.R]
  refine dT (w':=w') (v:=(⟨ZA ⟨w.heap.size,0,ZE⟩,(e.I U).toNat,(e.I U).toNat,[]⟩:SV).v) ?_ (hK _ (j.putL vw.nid [⟨ZA ⟨w.heap.size,0,ZE⟩,(e.I U).toNat,(e.I U).toNat,[]⟩]) _ T5 (od (Ext.of_grown h5) (RowOk.mk_own rfl A0.symm ⟨fun x hx=> ?_,by rw[A0];exact KH⟩ (by simp only;omega) h4) rfl rfl))
  .rw[hN]at h3;simp[execOp,Ad,KG,MT,h3,SV.v,ZI]
  .simp only[E.R,List.mem_replicate]at hx;rw[hx.2];exact h7
 .exact h2.elim
end
section
variable {P:Program}{sp:Spec}{U:Env}{G:Env->E->Prop}{I:Nat->List Dt->Prop}{base:Nat}{cx:Cx}{vw:Vw}{o:Oper}{k:Eff->Kw->Tr}
def vC{id:Nat}(hs:j.s id=ZA s)(h:(V.one (.sl id)).den U j=ZA v):v=s.v:=by simp only[V.den,C.den,hs,YU,bv]at h;exact h.symm
def ahb(h:(V.one .nsl).den U j=ZA v):v=.slice ZE 0 0:=(ZN h).symm
def SlOk.shut(h:SlOk U base w s r):SlOk U base w s {r with own:=ZC}:=⟨h.n,h.rows,h.pos,fun k hk=>h.lt k (bO hk),fun ho=>(by cases ho),h.rd⟩
def yS(hl:(l.R U).length<=maxLen):(Iq kw.vk l).I U=((l.R U).length:Int):=by
 have h:=dP U l;unfold Iq;split
 next z hz=>rw[hz]at h;exact h
 .rename_i e BM;split
  .exact h
  .show IntKind.i64.wrap _=_;rw[h];refine ph ?_;rw[bA];simp only[maxLen]at hl;simp only[IntKind.min,IntKind.max,IntKind.signed,IntKind.bits];simp;omega
def aoU(hT:∀t i,(t,i)∈cx.ty->TIok P t i)(Ad:o.op=.call c)(hc:c.callee=.builtin .len){id:Nat}(hl:Ey vw.ev c.args.toList=ZA [.one (.sl id)])(C5:c.argTypes.toList=[t])(hi:am t cx.ty=ZA i)(Gp:i.sle.isSome=ZB)(hr:vw.sw id=ZA r)(h:(k {val:=.one (.int .i64 (Iq kw.vk r.l)),rr:=[id]} kw).holds sp G U I)(hg:Good sp cx.sm U kw):Sound P sp U G I base cx vw o k kw:=by
 refine⟨_,kw,h,hg,.refl _,OpOk.pure fun j a w _ Av _ BS _=> ?_⟩;obtain⟨s,hs,Al⟩:=BS.sl id (by simp) r hr;obtain⟨h1,h2⟩:=jg (j:=j) (a:=a) hl (fun x hx=>Av x Xp);have h3:c.args.map a.eval = #[s.v]:=by
  have:c.args.toList.map a.eval=[s.v]:=by
   match hm:c.args.toList.map a.eval,h2 with
   |[u],_=>rw[hm]at h1;rw[vC hs (h1 0 _ u rfl rfl)]
  rw[<-Array.toArray_toList (xs:=c.args.map a.eval),Array.toList_map,this]
 obtain⟨et,Mf⟩:=Option.isSome_iff_exists.1 Gp;have hu:=(hT _ _ (ab hi)).sle et Mf;have Dx:c.argTypes = #[t]:=Xu;have HQ:(r.l.R U).length<=maxLen:=Al.rows.len;refine⟨.int .i64 (s.n:Int),by rw[Al.n];simp[V.den,C.den,yS HQ],?_⟩;simp[execOp,Ad,resolve,hc,h3,Dx,ZI,invoke,builtin,Builtin.len_,run_underlying hu,SV.v,goInt]
def ajZ(hT:∀t i,(t,i)∈cx.ty->TIok P t i)(Ad:o.op=.call c)(hc:c.callee=.builtin .len)(hl:Ey vw.ev c.args.toList=ZA [.one .nsl])(C5:c.argTypes.toList=[t])(hi:am t cx.ty=ZA i)(Gp:i.sle.isSome=ZB)(h:(k {val:=.one (.int .i64 (.p 0))} kw).holds sp G U I)(hg:Good sp cx.sm U kw):Sound P sp U G I base cx vw o k kw:=by
 refine⟨_,kw,h,hg,.refl _,OpOk.pure fun j a w _ Av _ BS _=> ?_⟩;obtain⟨h1,h2⟩:=jg (j:=j) (a:=a) hl (fun x hx=>Av x Xp);have h3:c.args.map a.eval = #[.slice ZE 0 0]:=by
  have:c.args.toList.map a.eval=[.slice ZE 0 0]:=by
   match hm:c.args.toList.map a.eval,h2 with
   |[u],_=>rw[hm]at h1;rw[ahb (h1 0 _ u rfl rfl)]
  rw[<-Array.toArray_toList (xs:=c.args.map a.eval),Array.toList_map,this]
 obtain⟨et,Mf⟩:=Option.isSome_iff_exists.1 Gp;have hu:=(hT _ _ (ab hi)).sle et Mf;have Dx:c.argTypes = #[t]:=Xu;refine⟨.int .i64 0,rfl,?_⟩;simp[execOp,Ad,resolve,hc,h3,Dx,ZI,invoke,builtin,Builtin.len_,run_underlying hu,goInt]
def amx{ty:Nat}(h:w.ownsRow base ty BC v n xs):∃s:SV,v=s.v/\s.n=n/\s.z=[]:=by
 rcases h.2 with⟨rfl,rfl⟩|⟨g,Hp,cur,rfl,_⟩
 .exact⟨⟨ZE,0,0,[]⟩,rfl,rfl,rfl⟩
 .exact⟨⟨ZA ⟨g,0,ZE⟩,n,Hp,[]⟩,rfl,rfl,rfl⟩
def ek{ty e:Nat}{CL:TypeInfo}{z:Value}(ht:P.underlying t=ZA (.slice e))(hi:P.info? e=ZA CL)(hz:CL.zero=ZA z)(Jt:z.cells.size=CL.size)(BT:0<CL.size)(AK:w.ownsRow base e CL.size v n xs)
  {x:SV} {KV:List Value} (By:RdRow w CL.size x KV) (h1:∀u∈KV,u.oneCell'=ZB) (h63:n+x.n<=maxLen) (EJ:(n+x.n)*CL.bytes<=140737488355328) (Cr:base<=w.heap.size):
  ∃s' w',(Builtin.append_ #[t,t] ty #[v,x.v]).run P w=.ok (SV.v s') w'/\s'.n=n+x.n/\w'.ownsRow base e CL.size s'.v (n+x.n) (xs++KV)/\w.grownBy w' v.ownBlock/\(s'.v.ownBlock=v.ownBlock\/s'.v.ownBlock=ZA w.heap.size)/\s'.z=[]:=by
 obtain⟨xa,xn,xc,xz⟩:=x;cases xa with
 |none=>
   obtain⟨h2,h3⟩:=By.2.2.2.1 rfl;simp only at h2 h3;subst h2 h3;have Ef:KV=[]:=by have:=By.1;simp only[Nat.zero_mul]at this;exact List.eq_nil_of_length_eq_zero this
   subst Ef;obtain⟨s,rfl,hn,BT⟩:=amx AK;exact⟨s,w,run_append_owned_none w base t ty e CL CL.size ht hi _ n xs AK,hn,by simpa using AK,⟨rfl,rfl,rfl,ZK _,fun _ _ _=>rfl⟩,.inl rfl,BT⟩
 |some a=>obtain⟨v',w',hr,h2,h3,_,h5⟩:=run_append_own_at (P:=P) w base t ty e CL z CL.size CL.bytes ht hi hz rfl rfl Jt BT v n xs AK a xn xc KV By.1 (fun j u hj=>By.2.2.2.2 a rfl j u hj) h1 h63 EJ Cr;obtain⟨s,rfl,hn,BT⟩:=amx h2;exact⟨s,w',hr,hn,h2,h3,h5,BT⟩
def Rh{v1 v2:V}(hl:Ey vw.ev c.args.toList=ZA [v1,v2])(Av:∀x∈c.args.toList,∀v,vw.ev x=ZA v->v.den U j=ZA (a.eval x)):∃u1 u2,c.args.map a.eval = #[u1,u2]/\v1.den U j=ZA u1/\v2.den U j=ZA u2:=by
 obtain⟨h1,h2⟩:=jg (j:=j) (a:=a) hl Av
 match hm:c.args.toList.map a.eval,h2 with
 |[u1,u2],_=>rw[hm]at h1;exact⟨u1,u2,by rw[<-Array.toArray_toList (xs:=c.args.map a.eval),Array.toList_map,hm],h1 0 _ u1 rfl rfl,h1 1 _ u2 rfl rfl⟩
def ane(U:Env)(a b:E):(DU a b).R U=a.R U++b.R U:=by
 unfold DU;split
 .simp[E.R]
 .split<;>simp[E.R]
def yj(hT:∀t i,(t,i)∈cx.ty->TIok P t i)(Ad:o.op=.call c)(hc:c.callee=.builtin .append){id:Nat}(hl:Ey vw.ev c.args.toList=ZA [.one .nsl,.one (.sl id)])(C5:c.argTypes.toList=[t,t])(hi:am t cx.ty=ZA i)(ha:i.sle=ZA et)(BE:am et cx.ty=ZA ie)(hr:vw.sw id=ZA r)(hq:r.ty=et/\r.ks.length=ie.size/\0<ie.size/\ie.bytes<=65536)(h:(AL (Bt (dG r.l) (.p EO)) (fun b kw=>if b then k {val:=.one (.sl vw.nid),rr:=[id],re:=.mk [⟨r.ks,et,r.l,ZB,.sl⟩]} kw else .panic) kw).holds sp G U I)(hg:Good sp cx.sm U kw):Sound P sp U G I base cx vw o k kw:=by
 obtain⟨Ch,h1,g1,_,l1⟩:=aS _ _ _ h hg;rw[dq,dP]at h1;split at h1
 .rename_i Ed;have K2:((r.l.R U).length:Int)<1073741824:=Ah Ed;refine⟨_,Ch,h1,g1,l1,fun j a w hb Av By Cb BS Ev K Q hK=> ?_⟩;obtain⟨s,hs,Al⟩:=BS.sl id (by simp) r hr;obtain⟨u1,u2,B6,Kf,IN⟩:=Rh (j:=j) (a:=a) hl (fun x hx=>Av x Xp);have e1:=ahb Kf;have e2:=vC hs IN;subst e1 e2;have hu:=(hT _ _ (ab hi)).sle et ha;obtain⟨CL,z,C4,CC,EJ,hz,Ib,I7⟩:=(hT _ _ (ab BE)).info;have Dx:c.argTypes = #[t,t]:=Xu;have hn:=Al.n;have DE:=Al.rd;rw[hq.2.1,<-CC]at DE;obtain⟨s',w',h2,h3,h4,h5,h6,h7⟩:=ek (P:=P) (base:=w.heap.size) (ty:=o.type) hu C4 hz YD Fn (World.ownsRow_nil w w.heap.size et CL.size) DE ut Yg
   (by
    have:(0+s.n)*CL.bytes<=1073741824*65536:=Nat.mul_le_mul Fn Fn;omega) (ZK _)
  simp only[bJ,ZQ]at h3 h4;rw[CC,<-hq.2.1,<-h3]at h4;refine dT (w':=w') (v:=s'.v) ?_ (hK _ (j.putL vw.nid [s']) _ T5 (od (Ext.of_grown h5) (RowOk.mk_own (r:=⟨r.ks,et,r.l,ZB,.sl⟩) rfl (by rw[h3];exact hn) Al.rows Al.pos h4) rfl rfl));simp only[execOp,Ad,resolve,hc,B6,Dx,ZI,Sem.run_pure,Result.andThen_ok,invoke,builtin,h2]
 .exact h1.elim
def acE(hT:∀t i,(t,i)∈cx.ty->TIok P t i)(Ad:o.op=.call c)(hc:c.callee=.builtin .append){old id:Nat}(hl:Ey vw.ev c.args.toList=ZA [.one (.sl old),.one (.sl id)])(C5:c.argTypes.toList=[t,t])(hi:am t cx.ty=ZA i)(ha:i.sle=ZA et)(BE:am et cx.ty=ZA ie)(hr:vw.sw id=ZA r)(Rk:vw.sw old=ZA q)(hq:r.ty=et/\r.ks.length=ie.size/\0<ie.size/\ie.bytes<=65536)(He:q.own=ZB/\q.ty=et/\q.ks=r.ks)(h:(AL (ib (Bt (dG q.l) (.p EO)) (Bt (dG r.l) (.p EO))) (fun b kw=>if b then k {val:=.one (.sl vw.nid),rr:=[old,id],re:=.app old ⟨r.ks,et,DU q.l r.l,ZB,.sl⟩} kw else .panic) kw).holds sp G U I)(hg:Good sp cx.sm U kw):Sound P sp U G I base cx vw o k kw:=by
 obtain⟨Ch,h1,g1,_,l1⟩:=aS _ _ _ h hg;rw[dQ,dq,dq,dP,dP]at h1;split at h1
 .rename_i Ed;rw[ne]at Ed;have I4:((q.l.R U).length:Int)<1073741824:=Ah Ed.1;have DV:((r.l.R U).length:Int)<1073741824:=Ah Ed.2;refine⟨_,Ch,h1,g1,l1,fun j a w hb Av By Cb BS Ev K Q hK=> ?_⟩;obtain⟨s,hs,Al⟩:=BS.sl id (by simp) r hr;obtain⟨p,hp,GW⟩:=BS.sl old (by simp) q Rk;obtain⟨u1,u2,B6,Kf,IN⟩:=Rh (j:=j) (a:=a) hl (fun x hx=>Av x Xp);have e1:=vC hp Kf;have e2:=vC hs IN;subst e1 e2;have hu:=(hT _ _ (ab hi)).sle et ha;obtain⟨CL,z,C4,CC,EJ,hz,Ib,I7⟩:=(hT _ _ (ab BE)).info;have Dx:c.argTypes = #[t,t]:=Xu;have hn:=Al.n;have hpn:=GW.n;have AK:=GW.own He.1;rw[He.2.1,He.2.2,hq.2.1,<-CC]at AK;have DE:=Al.rd;rw[hq.2.1,<-CC]at DE;obtain⟨s',w',h2,h3,h4,h5,h6,h7⟩:=ek (P:=P) (base:=base) (ty:=o.type) hu C4 hz YD Fn AK DE ut Yg
   (by
    have:(p.n+s.n)*CL.bytes<=2147483648*65536:=Nat.mul_le_mul Fn Fn;omega) hb
  rw[<-qq,CC,<-hq.2.1,<-h3]at h4;have hR:(DU q.l r.l).R U=q.l.R U++r.l.R U:=ane U _ _;refine dT (w':=w') (v:=s'.v) ?_ (hK _ (j.putS vw.nid s') _ aoZ ⟨p,s',hp,h5,RowOk.mk_own (r:=⟨r.ks,et,DU q.l r.l,ZB,.sl⟩) rfl ?_ ⟨fun x hx=> ?_,?_⟩ Al.pos (by simp only[hR];exact h4),h6,Zin.nil h7,rfl,fun e=>by cases e⟩)
  .simp only[execOp,Ad,resolve,hc,B6,Dx,ZI,Sem.run_pure,Result.andThen_ok,invoke,builtin,h2]
  .simp only[hR,eg];omega
  .simp only[hR,List.mem_append]at hx;rcases hx with hx|hx
   .have:=GW.rows.row x hx;rw[He.2.2]at this;exact this
   .exact Al.rows.row x hx
  .simp only[hR,eg,maxLen];omega
 .exact h1.elim
end
open Go.Sort (mapBlock onCells setCell_eq mapBlock_mapBlock mapBlock_congr)
section
variable {P:Program}{sp:Spec}{U:Env}{G:Env->E->Prop}{I:Nat->List Dt->Prop}{base:Nat}{cx:Cx}{vw:Vw}{o:Oper}{k:Eff->Kw->Tr}
def SQ(e:E)(n:Nat):(Kk e n).B U=(decide (0<=e.I U)&&decide (e.I U<(n:Int))):=by
 unfold Kk;rw[dQ,di,dq,dq];show(!decide (e.I U<0)&&decide (e.I U<(n:Int)))=_;congr 1;by_cases h:e.I U<0
 .rw[dg h,eY (by omega:¬0<=e.I U)];rfl
 .rw[eY h,dg (by omega:0<=e.I U)];rfl
def abu{o:Nat}{fo:Nat}(h:(C.pe b o n sz e off).den U j=ZA v):∃a,v=.pointer (ZA a)/\(C.pe b o n sz e (off+fo)).den U j=ZA (.pointer (ZA (a.add fo))):=by simp only[C.den,Ay]at h;obtain⟨kk,hk,rfl⟩:=h;exact⟨_,rfl,by simp only[C.den,hk,YU,bo];congr 4;omega⟩
def th(Ad:o.op=.nilCheck x)(hx:vw.ev x=ZA (.one (.pe b o0 n sz e off)))(h:(k {val:=.one (.pe b o0 n sz e off)} kw).holds sp G U I)(hg:Good sp cx.sm U kw):Sound P sp U G I base cx vw o k kw:=by refine⟨_,kw,h,hg,.refl _,OpOk.pure fun j a w _ Av _ _ _=>⟨a.eval x,Av x Or _ hx,?_⟩⟩;have hd:=Av x Or _ hx;obtain⟨a',he,_⟩:=abu (fo:=0) (show(C.pe b o0 n sz e off).den U j=ZA (a.eval x)from hd);simp[execOp,Ad,he]
def apB{o:Nat}(h:(V.one (.pe b o n sz e off)).den U j=ZA v):∃kk,j.b b=ZA kk/\v=.pointer (ZA ⟨kk,o+((e.I U).toNat*sz+off),ZE⟩):=by simp only[V.den,C.den,Ay]at h;obtain⟨kk,h1,h2⟩:=h;exact⟨kk,h1,h2.symm⟩
def vq(hT:∀t i,(t,i)∈cx.ty->TIok P t i)(Ad:o.op=.indexAddr t x y)(hx:vw.ev x=ZA (.one (.ptr b off)))(hy:vw.ev y=ZA (.one (.int k0 e)))(hi:am t cx.ty=ZA i)(ha:i.arr=ZA (n,et))(BE:am et cx.ty=ZA ie)(h:(AL (Kk e n) (fun ok kw=>if ok then k {val:=.one (.pe b off n ie.size e 0)} kw else .panic) kw).holds sp G U I)(hg:Good sp cx.sm U kw):Sound P sp U G I base cx vw o k kw:=by
 obtain⟨Ch,g1,q1,_,l1⟩:=aS _ _ _ h hg;rw[SQ]at g1;split at g1
 .rename_i hr;rw[ne,aB,aB]at hr;have hu:=(hT _ _ (ab hi)).arr n et ha;have hs:=(hT _ _ (ab BE)).size;refine⟨_,Ch,g1,q1,l1,OpOk.pure fun j a w _ Av _ _ _=> ?_⟩;obtain⟨kk,hk,he⟩:=mz (Av x Or _ hx);have hq:=dh (Av y Or _ hy);refine⟨.pointer (ZA ⟨kk,off+((e.I U).toNat*ie.size+0),ZE⟩),by simp[V.den,C.den,hk],?_⟩;have JW:(⟨kk,off,ZE⟩:Addr).add ((e.I U).toNat*ie.size)=⟨kk,off+((e.I U).toNat*ie.size+0),ZE⟩:=by rw[bo];simp
  simp[execOp,Ad,he,hq,Instr.indexAt,run_underlying hu,YY,asIntOf,hr,hs,ZI,JW]
 .exact g1.elim
def aiA{j:J}{k0:IntKind}{sz c:Nat}:∀(n:Nat) (cs:List C) (l:E) (vs:List Value),L6 k0 sz c n cs=ZA l->Af U j cs=ZA vs->∀m,m<n->vs[m*sz+c]? =ZA (.int k0 ((l.L U).getD m 0))
 |0,cs,l,vs,_,_,m,hm=>absurd hm Fn
 |n+1,cs,l,vs,h,hd,m,hm=>by
   simp only[L6]at h;split at h
   .rename_i k' a t h1 h2;split at h
    .rename_i hk;cases h;cases m with
     |zero=>obtain⟨v,h3,h4⟩:=dH hd c _ h1;rw[Nat.zero_mul,bJ,h3,<-h4,ar hk];simp[C.den,E.L]
     |succ m=>have ih:=aiA n _ t _ h2 (kl hd sz) m Fn;rw[List.getElem?_drop]at ih;rw[show(m+1)*sz+c=sz+(m*sz+c) by rw[Nat.succ_mul];omega,ih];simp[E.L]
    .exact Xo
   .exact Xo
def uz{j:J}{e:E}{n sz:Nat}{cs:List C}{vs:List Value}(hd:Af U j cs=ZA vs)(h0:0<=e.I U)(h1:e.I U<(n:Int)):∀(m c:Nat) (ds:List C),zp e n sz cs c m=ZA ds->ds.length=m/\Af U j ds=ZA ((vs.drop ((e.I U).toNat*sz+c)).take m)
 |0,c,ds,h=>by cases h;simp[Af]
 |m+1,c,ds,h=>by
   simp only[zp]at h;split at h
   .rename_i k0 a hc;split at h
    next l r h2 h3=>cases h;obtain⟨e1,e2⟩:=uz hd h0 h1 m (c+1) r h3;have e3:=aiA n cs l vs h2 hd (e.I U).toNat Fn;refine⟨by simp[e1],?_⟩;simp only[Af,C.den,E.I,e2];have As:=(cZ.1 e3).1;rw[List.drop_eq_getElem_cons As,List.take_succ_cons,(cZ.1 e3).2];rfl
    .exact Xo
   .exact Xo
def ae0(hT:∀t i,(t,i)∈cx.ty->TIok P t i)(Ad:o.op=.load t x)(hx:vw.ev x=ZA (.one (.pe b o0 n sz e off)))(hi:am t cx.ty=ZA i){cs:List C}(CT:vw.row b o0 (n*sz)=ZA cs)(BT:off+i.size<=sz)
  (h:(AL (Kk e n) (fun ok kw=>if ok then
      (match zp e n sz cs off i.size with
      |some ds=>if i.agg then k {val:=.agg ds,rd:=dW b o0 (n*sz)} kw else(match ds with
        |[d]=>k {val:=.one d,rd:=dW b o0 (n*sz)} kw
        |_=>.stuck 160)
      |none=>.stuck 161)
      else .stuck 162) kw).holds sp G U I) (hg:Good sp cx.sm U kw):Sound P sp U G I base cx vw o k kw:=by
 obtain⟨Ch,g1,q1,_,l1⟩:=aS _ _ _ h hg;rw[SQ]at g1;split at g1
 .rename_i hr;rw[ne,aB,aB]at hr;have ht:=hT _ _ (ab hi);have AV:=vw.rowok _ _ _ _ CT;split at g1
  .rename_i ds Bp;have cells:∀{j:J} {w:World} {kk:Nat},j.b b=ZA kk->FI U j w vw.ld (dW b o0 (n*sz))->∃us,Af U j ds=ZA us/\us.length=i.size/\∀(m:Nat) u,us[m]? =ZA u->w.cell? ⟨kk,o0+((e.I U).toNat*sz+off)+m,ZE⟩=ZA u:=by
    intro j w kk hk By;obtain⟨vs,hd,-⟩:=eh (P:=P) (U:=U) hk (n*sz) o0 cs AV w By ⟨kk,o0,ZE⟩ 0 #[] (fun m=>by rw[bo];simp);obtain⟨e1,e2⟩:=uz hd hr.1 hr.2 i.size off ds Bp;refine⟨_,e2,by rw[aR e2,e1],fun m u hu=> ?_⟩;rw[List.getElem?_take]at hu;split at hu
    .rw[List.getElem?_drop]at hu;obtain⟨hl,CA⟩:=jQ _ _ _ AV;have As:=(cZ.1 hu).1;rw[aR hd]at As;obtain⟨c0,JZ⟩:∃c0,cs[(e.I U).toNat*sz+off+m]? =ZA c0:=⟨_,AH As⟩
     have hld:=CA _ c0 JZ;obtain⟨k',v,B2,hv,BB⟩:=By (b,o0+((e.I U).toNat*sz+off+m)) (by
      have:∀(n o p:Nat),p<n->(b,o+p)∈dW b o n:=by
       intro n
       induction n with
       |zero=>intro o p hp;omega
       |succ n ih=>
         intro o p hp;cases p with
         |zero=>simp[dW]
         |succ p=>simp only[dW,YT];exact .inr (by have:=ih (o+1) p Fn;rwa [show o+(p+1)=o+1+p by omega])
      exact this _ _ _ Fn) c0 hld
     simp only at B2 BB;rw[hk]at B2;cases B2;obtain⟨v',CP,Ie⟩:=dH hd _ c0 JZ;rw[hv]at Ie;cases Ie;rw[CP]at hu;cases hu;rw[YW];exact BB
    .cases hu
   split at g1
   next Bu=>refine⟨_,Ch,g1,q1,l1,OpOk.pure fun j a w _ Av By _ _=> ?_⟩;obtain⟨kk,hk,he⟩:=apB (Av x Or _ hx);obtain⟨us,h1,h2,h3⟩:=cells hk By;refine⟨.agg us.toArray,by simp[V.den,h1],?_⟩;have HH:=gK (P:=P) (a:=⟨kk,o0+((e.I U).toNat*sz+off),ZE⟩) (w:=w) us 0 #[] (fun m u hu=>by rw[bJ,bo];exact h3 m u hu);rw[h2]at HH;simp[execOp,Ad,he,Instr.loadAt,YY,ZI,loadVar,ht.agg,Bu,ht.size,loadCells,HH]
   .rename_i Bu;split at g1
    .rename_i d;refine⟨_,Ch,g1,q1,l1,OpOk.pure fun j a w _ Av By _ _=> ?_⟩;obtain⟨kk,hk,he⟩:=apB (Av x Or _ hx);obtain⟨us,h1,h2,h3⟩:=cells hk By;simp only[Af]at h1;cases hdd:d.den U j with
     |none=>rw[hdd]at h1;cases h1
     |some v=>rw[hdd]at h1;cases h1;have BB:=h3 0 v rfl;rw[ZS]at BB;have DF:i.agg=ZC:=YC;refine⟨v,hdd,?_⟩;simp[execOp,Ad,he,Instr.loadAt,YY,ZI,loadVar,ht.agg,DF,load,Sem.run,BB]
    .exact g1.elim
  .exact g1.elim
 .exact g1.elim
def Ds:Nat->List Value->List Value->List Value
 |off+1,x::xs,us=>x::Ds off xs us
 |0,x::xs,u::us=>u::Ds 0 xs us
 |_,xs,_=>xs
def iK:∀(off:Nat) (xs us:List Value) (p:Nat),(Ds off xs us)[p]? =if off<=p/\p<off+us.length/\p<xs.length then us[p-off]? else xs[p]?
 |off+1,x::xs,us,0=>by simp[Ds]
 |off+1,x::xs,us,p+1=>by
   simp only[Ds,lY,iK off xs us p,YS];by_cases h:off<=p/\p<off+us.length/\p<xs.length
   .rw[if_pos h,if_pos Fn];congr 1;omega
   .rw[if_neg h,if_neg Fn]
 |0,x::xs,u::us,0=>by simp[Ds]
 |0,x::xs,u::us,p+1=>by
   simp only[Ds,lY,iK 0 xs us p,YS];by_cases h:0<=p/\p<0+us.length/\p<xs.length
   .rw[if_pos h,if_pos Fn];simp
   .rw[if_neg h,if_neg Fn]
 |0,x::xs,[],p=>by rw[if_neg (by simp)];rfl
 |0,[],us,p=>by cases us<;>simp[Ds]
 |off+1,[],us,p=>by simp[Ds]
def dO:∀(off:Nat) (xs us:List Value),(Ds off xs us).length=xs.length
 |off+1,x::xs,us=>by simp[Ds,dO off xs us]
 |0,x::xs,u::us=>by simp[Ds,dO 0 xs us]
 |0,x::xs,[]=>rfl
 |0,[],us=>by cases us<;>rfl
 |off+1,[],us=>rfl
def yk{j:J}{c:E}:∀(off:Nat) (xs vc r:List C) (vs us:List Value),Fi c off xs vc=ZA r->Af U j xs=ZA vs->Af U j vc=ZA us->Af U j r=ZA (if c.B U=ZB then Ds off vs us else vs)
 |off+1,x::xs,vc,r,vs,us,h,h1,h2=>by
   simp only[Fi,Ay]at h;obtain⟨r',h3,rfl⟩:=h;simp only[Af]at h1;cases hx:x.den U j with
   |none=>rw[hx]at h1;cases h1
   |some v=>
     cases hl:Af U j xs with
     |none=>rw[hx,hl]at h1;cases h1
     |some l=>rw[hx,hl]at h1;cases h1;simp only[Af,hx,yk off xs vc r' l us h3 hl h2];split<;>simp[Ds]
 |0,xs,[],r,vs,us,h,h1,h2=>by
   cases h2;have:r=xs:=by cases xs<;>simpa[Fi]using h.symm
   subst this;rw[h1];cases vs<;>simp[Ds]
 |0,x::xs,y::vc,r,vs,us,h,h1,h2=>by
   cases x<;>first|(simp only[Fi]at h;cases h;done)|skip
   cases y<;>first|(simp only[Fi]at h;cases h;done)|skip
   rename_i k a k' b;simp only[Fi]at h;split at h
   .rename_i hk;rw[Ay]at h;obtain⟨r',h3,rfl⟩:=h;simp only[Af,C.den]at h1 h2;cases hl:Af U j xs with
    |none=>rw[hl]at h1;cases h1
    |some l=>
      cases hm:Af U j vc with
      |none=>rw[hm]at h2;cases h2
      |some m=>rw[hl]at h1;cases h1;rw[hm]at h2;cases h2;simp only[Af,C.den,E.I,yk 0 xs vc r' l m h3 hl hm];split<;>simp[Ds,ar hk]
   .exact Xo
 |0,[],y::vc,r,vs,us,h,h1,h2=>by simp[Fi]at h
 |off+1,[],vc,r,vs,us,h,h1,h2=>by simp[Fi]at h
def ahP{j:J}{e:E}{off sz:Nat}{vc:List C}{us:List Value}(hu:Af U j vc=ZA us)(BT:off+us.length<=sz)(h0:0<=e.I U):∀(n m0:Nat) (cs ds:List C) (vs:List Value),Li e off sz vc m0 n cs=ZA ds->Af U j cs=ZA vs->vs.length=n*sz->
  Af U j ds=ZA (if m0<=(e.I U).toNat/\(e.I U).toNat<m0+n then Ds (((e.I U).toNat-m0)*sz+off) vs us else vs)
 |0,m0,cs,ds,vs,h,hd,hl=>by cases h;rw[if_neg Fn,hd]
 |n+1,m0,cs,ds,vs,h,hd,hl=>by
   simp only[Li]at h;split at h
   .rename_i a b h1 h2;cases h;have e1:=yk off _ _ _ _ _ h1 (mN hd sz) hu;have HC:(vs.drop sz).length=n*sz:=by rw[List.length_drop,hl,Nat.succ_mul];omega
    have e2:=ahP hu BT h0 n (m0+1) _ _ _ h2 (kl hd sz) HC;have DH:sz<=vs.length:=Yo;rw[gr e1 e2];congr 1;have hB:(E.eq e (.p (m0:Int))).B U=decide ((e.I U).toNat=m0):=by simp only[E.B,E.I];rw[aj];simp only[cL,aB];omega
    rw[hB];generalize (e.I U).toNat=M;apply List.ext_getElem?;intro p;have tl:(vs.take sz).length=sz:=by rw[List.length_take];omega
    by_cases hM:M=m0
    .subst hM;rw[if_pos (by simp),if_neg Fn,if_pos Fn,Nat.sub_self,Nat.zero_mul,bJ,iK];by_cases hp:p<sz
     .rw[A9 (by rw[dO,tl];exact hp),iK,tl,List.getElem?_take,if_pos hp];by_cases hq:off<=p/\p<off+us.length/\p<sz
      .rw[if_pos hq,if_pos Fn]
      .rw[if_neg hq,if_neg Fn]
     .rw[Bl (by rw[dO,tl];omega),dO,tl,List.getElem?_drop,if_neg Fn];congr 1;omega
    .rw[if_neg (by simpa using hM)];by_cases hr:m0+1<=M/\M<m0+1+n
     .rw[if_pos hr,if_pos Fn,iK];have hmul:(M-m0)*sz=sz+(M-(m0+1))*sz:=by
       rw[show M-m0=(M-(m0+1))+1 by omega,Nat.succ_mul];omega
      by_cases hp:p<sz
      .rw[A9 (by rw[tl];exact hp),List.getElem?_take,if_pos hp,if_neg Fn]
      .rw[Bl (by rw[tl];omega),tl,iK,List.getElem?_drop,HC];have Gy:sz+(p-sz)=p:=Fn;rw[Gy];have A0:vs.length=sz+n*sz:=Yo;by_cases hq:(M-(m0+1))*sz+off<=p-sz/\p-sz<(M-(m0+1))*sz+off+us.length/\p-sz<n*sz
       .rw[if_pos hq,if_pos Fn];congr 1;omega
       .rw[if_neg hq,if_neg Fn]
     .rw[if_neg hr,if_neg Fn,List.take_append_drop]
   .exact Xo
def Gg:Nat->List Value->Array Value->Array Value
 |_,[],c=>c
 |o,v::vs,c=>Gg (o+1) vs (c.setIfInBounds o v)
def tQ:∀(vs:List Value) (o:Nat) (c:Array Value) (i:Nat),(Gg o vs c)[i]? =if o<=i/\i<o+vs.length/\i<c.size then vs[i-o]? else c[i]?
 |[],o,c,i=>by rw[if_neg (by simp only[List.length_nil];omega)];rfl
 |v::vs,o,c,i=>by
   simp only[Gg,tQ vs (o+1),Array.size_setIfInBounds,YS];rcases Nat.lt_trichotomy i o with h|h|h
   .rw[if_neg Fn,if_neg Fn,Array.getElem?_setIfInBounds,if_neg Fn]
   .subst h;rw[if_neg Fn,Array.getElem?_setIfInBounds,if_pos rfl];by_cases hs:i<c.size
    .rw[if_pos hs,if_pos Fn];simp
    .rw[if_neg hs,if_neg Fn,Array.getElem?_eq_none Fn]
   .by_cases hq:o+1<=i/\i<o+1+vs.length/\i<c.size
    .rw[if_pos hq,if_pos Fn,show i-o=(i-(o+1))+1 by omega];rfl
    .rw[if_neg hq,if_neg Fn,Array.getElem?_setIfInBounds,if_neg Fn]
def mY{j:J}{b kk:Nat}(hk:j.b b=ZA kk):∀(cs:List C) (o:Nat) (vs:List Value) (w:World),Af U j cs=ZA vs->sD U j (eG b o cs) w (mapBlock w kk (Gg o vs))/\∀w',sD U j (eG b o cs) w w'->w'=mapBlock w kk (Gg o vs)
 |[],o,vs,w,hd=>by cases hd;have e:mapBlock w kk (Gg o [])=w:=Go.Sort.mapBlock_id w kk _ (fun c e fr _=>rfl);rw[e];exact⟨rfl,fun w' h=>h⟩
 |c::cs,o,vs,w,hd=>by
   simp only[Af]at hd;cases hc:c.den U j with
   |none=>rw[hc]at hd;cases hd
   |some v=>
     cases hl:Af U j cs with
     |none=>rw[hc,hl]at hd;cases hd
     |some l=>
       rw[hc,hl]at hd;cases hd;obtain⟨i1,i2⟩:=mY hk cs (o+1) l (w.setCell ⟨kk,o,ZE⟩ v) hl;have e:mapBlock (w.setCell ⟨kk,o,ZE⟩ v) kk (Gg (o+1) l)=mapBlock w kk (Gg o (v::l)):=by rw[setCell_eq,mapBlock_mapBlock];rfl
       rw[e]at i1 i2;refine⟨⟨kk,v,hk,hc,i1⟩,?_⟩;rintro w' ⟨k2,v2,g1,g2,g3⟩;rw[hk]at g1;cases g1;rw[hc]at g2;cases g2;exact i2 w' g3
def wl{b:Nat}:∀(n o p:Nat),p<n->(b,o+p)∈dW b o n
 |0,_,_,h=>absurd h Fn
 |n+1,o,0,_=>by simp[dW]
 |n+1,o,p+1,h=>by simp only[dW,YT];have:=wl (b:=b) n (o+1) p Fn;rw[show o+1+p=o+(p+1) by omega]at this;exact .inr this
def wj{b:Nat}:∀(cs:List C) (o p:Nat) (c:C),cs[p]? =ZA c->(b,o+p,c)∈eG b o cs
 |[],_,_,_,h=>by simp at h
 |x::cs,o,0,c,h=>by simp at h;subst h;simp[eG]
 |x::cs,o,p+1,c,h=>by simp only[eG,YT];have:=wj (b:=b) cs (o+1) p c Xx;rw[show o+1+p=o+(p+1) by omega]at this;exact .inr this
def aa4{b:Nat}:∀(cs:List C) (o:Nat) (q:Nat×Nat×C),q∈eG b o cs->q.1=b/\∃p,p<cs.length/\q.2.1=o+p
 |[],_,q,h=>by simp[eG]at h
 |x::cs,o,q,h=>by
   simp only[eG,YT]at h;rcases h with rfl|h
   .exact⟨rfl,0,by simp,rfl⟩
   .obtain⟨h1,p,h2,h3⟩:=aa4 cs (o+1) q h;exact⟨h1,p+1,by simp;omega,by omega⟩
def acy(hT:∀t i,(t,i)∈cx.ty->TIok P t i)(Ad:o.op=.store t x y)(hx:vw.ev x=ZA (.one (.pe b o0 n sz e off))){v:V}(hy:vw.ev y=ZA v)(hi:am t cx.ty=ZA i){cs:List C}(CT:vw.row b o0 (n*sz)=ZA cs)
  (hf:v.flat=ZB) (hn:v.cells.length=i.size) (BT:off+i.size<=sz) (CV:cs.length=n*sz)
  (h:(AL (Kk e n) (fun ok kw=>if ok then
      (match Li e off sz v.cells 0 n cs with
      |some ds=>if ds.all C.solid&&(cs.all C.solid&&v.cells.all C.solid)then k {val:=.one .undef,rd:=dW b o0 (n*sz),wr:=eG b o0 ds} kw else .stuck 165
      |none=>.stuck 166)
      else .stuck 167) kw).holds sp G U I) (hg:Good sp cx.sm U kw):Sound P sp U G I base cx vw o k kw:=by
 obtain⟨Ch,g1,q1,_,l1⟩:=aS _ _ _ h hg;rw[SQ]at g1;split at g1
 .rename_i hr;rw[ne,aB,aB]at hr;have ht:=hT _ _ (ab hi);have AV:=vw.rowok _ _ _ _ CT;split at g1
  .rename_i ds Bp;split at g1
   .rename_i Eb;simp only[ne]at Eb;refine⟨_,Ch,g1,q1,l1,fun j a w _ Av By Cb _ _ K Q hK=> ?_⟩;obtain⟨kk,hk,he⟩:=apB (Av x Or _ hx);have hd:=V.cells_ok (Av y Or v hy) hf;obtain⟨vs,EN,-⟩:=eh (P:=P) (U:=U) hk (n*sz) o0 cs AV w By ⟨kk,o0,ZE⟩ 0 #[] (fun m=>by rw[bo];simp);have hul:(a.eval y).cells.toList.length=i.size:=by rw[aR hd,hn]
    have P7:vs.length=n*sz:=by rw[aR EN,CV]
    have KT:=ahP hd (by rw[hul];exact BT) hr.1 n 0 cs ds vs Bp EN P7;rw[if_pos Fn,Nat.sub_zero]at KT;generalize hM:(e.I U).toNat=M at *;have hMn:M<n:=Fn;have hMs:M*sz+off+i.size<=n*sz:=by have:(M+1)*sz<=n*sz:=Nat.mul_le_mul_right sz hMn;rw[Nat.succ_mul]at this;omega
    have old:∀p,p<n*sz->w.cell? ⟨kk,o0+p,ZE⟩=vs[p]? :=by
     intro p hp;obtain⟨hl,CA⟩:=jQ _ _ _ AV;obtain⟨c0,JZ⟩:∃c0,cs[p]? =ZA c0:=⟨_,AH Fn⟩
     obtain⟨k',v',B2,CP,BB⟩:=By (b,o0+p) (wl _ _ _ hp) c0 (CA _ c0 JZ);simp only at B2 BB;rw[hk]at B2;cases B2;obtain⟨v2,IH,IN⟩:=dH EN p c0 JZ;rw[CP]at IN;cases IN;rw[BB,IH]
    have hdl:ds.length=n*sz:=by have:=aR KT;rw[dO]at this;omega
    have Ks:ME j w (eG b (o0+(M*sz+off)) v.cells):=by
     intro q hq;obtain⟨e1,p,e2,e3⟩:=aa4 _ _ _ hq;obtain⟨c1,QU⟩:∃c1,ds[M*sz+off+p]? =ZA c1:=⟨_,AH Fn⟩
     obtain⟨k3,u3,f1,f2,f3⟩:=Cb _ (wj ds o0 _ c1 QU);refine⟨k3,u3,by rw[e1];exact f1,?_,?_⟩
     .rw[e3,YW];exact f2
     .rw[e3,YW];exact f3
    obtain⟨w',h1,h2⟩:=dC (P:=P) hk ⟨kk,o0+(M*sz+off),ZE⟩ v.cells (o0+(M*sz+off)) 0 _ w (fun m=>by rw[bo];simp) hd Eb.2.2 Ks;have e1:=(mY hk v.cells _ _ w hd).2 w' h1;have e2:=(mY hk ds o0 _ w KT).1;have e3:mapBlock w kk (Gg (o0+(M*sz+off)) (a.eval y).cells.toList)=mapBlock w kk (Gg o0 (Ds (M*sz+off) vs (a.eval y).cells.toList)):=by
     refine mapBlock_congr w kk _ _ fun c ec fr hc=> ?_;have oldc:∀p,p<n*sz->c[o0+p]? =vs[p]? :=fun p hp=>by have:=old p hp;rw[<-this];simp[World.cell?,hc]
     apply Array.ext_getElem?;intro q;rw[tQ,tQ,dO,P7];by_cases hq:o0<=q/\q<o0+n*sz/\q<c.size
     .rw[if_pos hq,iK];by_cases He:M*sz+off<=q-o0/\q-o0<M*sz+off+(a.eval y).cells.toList.length/\q-o0<vs.length
      .rw[if_pos He,if_pos Fn];congr 1;omega
      .rw[if_neg He,if_neg Fn,<-oldc (q-o0) Fn];congr 1;omega
     .rw[if_neg hq,if_neg Fn]
    rw[e3]at e1;have Nn:(a.eval y).cells.size=i.size:=by rw[<-Array.length_toList];exact hul
    refine uL (w':=w') ?_ (hK _ j w' rfl ⟨rfl,w,Ext.refl w,by rw[e1];exact e2⟩);simp[execOp,Ad,he,Instr.storeAt,YY,ZI,storeVar,ht.size,Nn,h2]
   .exact g1.elim
  .exact g1.elim
 .exact g1.elim
end
section
variable {P:Program}{sp:Spec}{U:Env}{G:Env->E->Prop}{I:Nat->List Dt->Prop}{base:Nat}{cx:Cx}{vw:Vw}{o:Oper}{k:Eff->Kw->Tr}
def apV{f:E->E->E}{g:Int->Int->Int}(hf:∀a b,(f a b).I U=g (a.I U) (b.I U)){m2:Value->Value->Sem Value}{k0:IntKind}(hm:∀x y w,(m2 (.int k0 x) (.int k0 y)).run P w=.ok (.int k0 (g x y)) w){j:J}:
  ∀(l:List V) (e e':E) (us:List Value),M7 f k0 e l=ZA e'->(∀(i:Nat) x u,l[i]? =ZA x->us[i]? =ZA u->x.den U j=ZA u)->us.length=l.length->∀w,(us.foldlM m2 (.int k0 (e.I U))).run P w=.ok (.int k0 (e'.I U)) w
 |[],e,e',us,h,hu,hl,w=>by
   cases h;cases us with
   |nil=>simp
   |cons _ _=>cases hl
 |v::l,e,e',us,h,hu,hl,w=>by
   cases us with
   |nil=>cases hl
   |cons u us=>
     cases v with
     |one c=>
       cases c with
       |int kd x=>
         simp only[M7]at h;split at h
         next hk=>have:=ar hk;subst this;have h1:=dh (hu 0 _ u rfl rfl);subst h1;have h2:=apV hf hm l (f e x) e' us h (fun i y u hy JT=>hu (i+1) y u YB (by simpa using JT)) Yh w;rw[hf]at h2;simp only[List.foldlM_cons,ZI,hm,Result.andThen_ok,h2]
         .exact Xo
       |_=>simp[M7]at h
     |_=>simp[M7]at h
def fL:(c.args.map a.eval).toList=c.args.toList.map a.eval:=Array.toList_map ..
def al8(mx:Bool)(Ad:o.op=.call c)(hc:c.callee=.builtin (if mx then .max else .min)){e':E}{l:List V}(hl:Ey vw.ev c.args.toList=ZA (.one (.int k0 e)::l))(he:M7 (if mx then RB else Sw) k0 e l=ZA e')(h:(k {val:=.one (.int k0 e')} kw).holds sp G U I)(hg:Good sp cx.sm U kw):Sound P sp U G I base cx vw o k kw:=by
 refine⟨_,kw,h,hg,.refl _,OpOk.pure fun j a w _ Av _ _ _=>⟨.int k0 (e'.I U),rfl,?_⟩⟩;obtain⟨h1,h2⟩:=jg (j:=j) (a:=a) hl (fun x hx=>Av x Xp);obtain⟨u,us,LK⟩:∃u us,c.args.toList.map a.eval=u::us:=by
  cases hm:c.args.toList.map a.eval with
  |nil=>rw[hm]at h2;cases h2
  |cons u us=>exact⟨u,us,rfl⟩
 rw[LK]at h1 h2;have hu:=dh (h1 0 _ u rfl rfl);subst hu;have MX:(c.args.map a.eval).toList=.int k0 (e.I U)::us:=by rw[fL,LK]
 cases mx with
 |true=>have h3:=apV (P:=P) (U:=U) (f:=RB) (g:=max) (apX U) (m2:=Builtin.max2) (k0:=k0) (fun x y w=>by simp[Builtin.max2,qi.2]) l e e' us YE (fun i x u hx hu=>h1 (i+1) x u Xz X2) XR w;simp only[execOp,Ad,resolve,hc,if_true,ZI,Sem.run_pure,Result.andThen_ok,invoke,builtin,Builtin.max_,MX,h3]
 |false=>have h3:=apV (P:=P) (U:=U) (f:=Sw) (g:=min) (apW U) (m2:=Builtin.min2) (k0:=k0) (fun x y w=>by simp[Builtin.min2,qi.1]) l e e' us YE (fun i x u hx hu=>h1 (i+1) x u Xz X2) XR w;simp only[execOp,Ad,resolve,hc,Bool.false_eq_true,if_false,ZI,Sem.run_pure,Result.andThen_ok,invoke,builtin,Builtin.min_,MX,h3]
def aub{ks:List CK}(hv:Vk U vk)(hr:(∀(n:Nat) k,ks[n]? =ZA (.int k)->Ae k (U.i (vk.length+n))=ZB)/\∀(n:Nat) k ty,ks[n]? =ZA (.sl k ty)->RowsIn k (U.l (vk.length+n))):Vk U (vk++ks.map xw):=by
 constructor
 .intro n kd h;rcases bt n vk.length with As|DH
  .rw[A9 As]at h;exact hv.i n kd h
  .rw[Bl DH,jn,Ay]at h;obtain⟨c,hc,hk⟩:=h;cases c<;>simp only[xw]at hk<;>first|cases hk|skip
   have:=hr.1 _ _ hc;rwa [show vk.length+(n-vk.length)=n by omega]at this
 .intro n kd h;rcases bt n vk.length with As|DH
  .rw[A9 As]at h;exact hv.l n kd h
  .rw[Bl DH,jn,Ay]at h;obtain⟨c,hc,hk⟩:=h;cases c<;>simp only[xw]at hk<;>first|cases hk|skip
   have:=hr.2 _ _ _ hc;rwa [show vk.length+(n-vk.length)=n by omega]at this
def aiq(hv:Vk U vk){rw:Nat->Option RowOb}{k:CK}{c:C}{t:E}(h:HJ vk rw k c t=ZA e):L5 k (e.D U) (t.D U):=by
 unfold HJ at h;split at h
 .split at h
  next hk=>cases h;simp only[ne]at hk;exact⟨_,rfl,E.rng_ok hv _ hk.2⟩
  .exact Xo
 .cases h;exact⟨_,rfl⟩
 .split at h
  .cases h;exact rfl
  .exact Xo
 .split at h
  .cases h;exact rfl
  .exact Xo
 .rw[Ay]at h;obtain⟨l,hl,rfl⟩:=h;refine⟨_,rfl,?_⟩;unfold jo at hl;split at hl
  .split at hl
   .split at hl
    next hq=>simp only[ne]at hq;cases hl;exact E.lok_ok hv _ hq.2.2
    .cases hl
   .cases hl
  .cases hl;intro r hr;cases hr
  .cases hl
 .cases h;exact rfl
 .cases h;exact rfl
 .split at h
  .split at h
   next hq=>simp only[ne]at hq;cases h;exact⟨rfl,hq.2.2⟩
   .exact Xo
  .exact Xo
 .exact Xo
def ab5{vk:List VK}(hv:Vk U vk){rw:Nat->Option RowOb}:∀{ks:List CK} {cs:List C} {t e:E},xo vk rw ks cs t=ZA e->PU ks (e.D U) (t.D U)
 |[],[],t,e,h=>by cases h;exact rfl
 |k::ks,c::cs,t,e,h=>by simp only[xo,cY]at h;obtain⟨e',h1,h2⟩:=h;exact⟨_,aiq hv h2,ab5 hv h1⟩
def zm(hv:Vk U vk){rw:Nat->Option RowOb}{ks:List CK}{cs:List C}{t:E}(h:Io vk rw ks cs t=ZA e):PU ks (e.D U) (t.D U):=ab5 hv (xm h)
def nz{j:J}{l e:E}:∀(ks:List CE) (c0:Nat),∃vs,Af U j (kU l e c0 ks)=ZA vs/\vs.length=ks.length/\∀(m:Nat) ck,ks[m]? =ZA ck->vs[m]? =ZA (ko ck (gt (l.R U) (e.I U) (c0+m)))
 |[],c0=>⟨[],rfl,rfl,fun m ck h=>by simp at h⟩
 |k::ks,c0=>by
   obtain⟨vs,h1,h2,h3⟩:=nz (j:=j) (l:=l) (e:=e) ks (c0+1);refine⟨ko k (gt (l.R U) (e.I U) c0)::vs,by simp only[kU,Af,tM,h1],by simp[h2],fun m ck h=> ?_⟩;cases m with
   |zero=>simp at h;subst h;simp
   |succ m=>have:=h3 m ck Xx;simpa[YW,Nat.add_comm 1 m]using this
def atN(hv:Vk U vk){ty id z:Nat}{t x:E}(h:SN vk vw ks id z e t=ZA x):L5 (.el ks ty) (x.D U) (t.D U):=by
 unfold SN at h;split at h
 .rename_i r hr;split at h
  .rw[Ay]at h;obtain⟨q,hq,rfl⟩:=h;obtain⟨vs,h1,_⟩:=nz (U:=U) (j:=⟨fun _=>ZE,fun _=>ZE,fun _=>ZE,Gh.zero⟩) (l:=r.l) (e:=e) ks 0;exact⟨q.L U,rfl,(ny hv hq h1).2⟩
  .exact Xo
 .exact Xo
def atM(hv:Vk U vk){ty id z:Nat}{t x:E}(BS:RrOk U base j w vw.rw [id])(De:∀r,vw.sw id=ZA r->(GF e r.l).B U=ZB)(h:SN vk vw ks id z e t=ZA x){u:Value}(hu:(V.one (.ep id z e 0)).den U j=ZA u):xv w (.el ks ty) (x.D U) u (t.D U):=by
 unfold SN at h;split at h
 .rename_i r hr;split at h
  .rename_i hq;rw[Ay]at h;obtain⟨q,hx,rfl⟩:=h;simp only[ne]at hq;have CH:=cJ hq.1;have hz:=Ak hq.2;subst CH hz;obtain⟨s,hs,Al⟩:=BS.sl id (by simp) r hr;obtain⟨a,ha,rfl⟩:=xj hs hu;obtain⟨vs,h1,h2,h3⟩:=nz (U:=U) (j:=j) (l:=r.l) (e:=e) r.ks 0;obtain⟨h4,h5⟩:=ny hv hx h1;have hb:=De r hr;rw[wY]at hb;simp only[ne,aB]at hb;have Eo:0<s.n:=by have:=Al.n;omega
   have hc:s.c≠0:=by have:=Al.rd.2.1;omega
   refine⟨q.L U,_,rfl,rfl,h5,Al.lt _ (bO (qG hc ?_)),fun c u hcu=> ?_⟩
   .simp only[SV.v,Value.ownBlock,ha];unfold Addr.add;split<;>rfl
   .have FZ:flat r.ks [q.L U]=vs:=by rw[h4];simp[flat]
    rw[FZ]at hcu;have As:c<r.ks.length:=by rw[<-h2];exact(cZ.1 hcu).1
    have Ea:=AH As;have h6:=h3 c _ Ea;rw[hcu]at h6;cases h6;rw[bJ,bU,ZS];exact Al.rd.2.2.2.2 a ha _ _ (mJ Ea Al.rows.row Fn)
  .exact Xo
 .exact Xo
def ala{x:V}{xs:List V}(h:(K5 vw (x::xs)).B U=ZB):(K5 vw xs).B U=ZB/\∀id z e,x=.one (.ep id z e 0)->∀r,vw.sw id=ZA r->(GF e r.l).B U=ZB:=by
 by_cases hx:∃id z e,x=.one (.ep id z e 0)
 .obtain⟨id,z,e,rfl⟩:=hx;simp only[K5]at h;split at h
  next r hr=>rw[dQ,ne]at h;refine⟨h.2,fun Jh z' e' he r' AU=> ?_⟩;cases he;rw[hr]at AU;cases AU;exact h.1
  next hr=>refine⟨h,fun Jh z' e' he r' AU=> ?_⟩;cases he;rw[hr]at AU;cases AU
 .have e:K5 vw (x::xs)=K5 vw xs:=by
   cases x with
   |one c=>cases c with
     |ep id z e o=>cases o with
       |zero=>exact(hx ⟨_,_,_,rfl⟩).elim
       |succ o=>rfl
     |_=>rfl
   |_=>rfl
  rw[e]at h;exact⟨h,fun id z e he=>(hx ⟨_,_,_,he⟩).elim⟩
def ais{vk:List VK}(hv:Vk U vk):∀{ss:List Sh} {xs:List V} {e:E},I8 vk vw ss xs=ZA e->Si ss (e.D U)
 |[],[],e,h=>by cases h;exact rfl
 |s::ss,x::xs,e,h=>by
   simp only[I8,cY]at h;obtain⟨e',h1,h2⟩:=h;refine⟨e'.D U,?_,ais hv h1⟩;unfold NU at h2;split at h2
   .exact zm hv h2
   .exact⟨_,atN hv h2,rfl⟩
   .exact⟨_,aiq hv h2,rfl⟩
   .split at h2
    .rw[cY]at h2;obtain⟨cs,_,h2⟩:=h2;exact zm hv h2
    .exact XU
   .rw[cY]at h2;obtain⟨cs,_,h2⟩:=h2;split at h2
    .exact zm hv h2
    .exact XU
   .exact XU
def aip(hv:Vk U vk){k:CK}{c:C}{t:E}(BS:RrOk U base j w vw.rw (fU [c]))(hd:k=.any->∃v,c.den U j=ZA v)(h:HJ vk vw.tw k c t=ZA e):∃v,c.den U j=ZA v/\xv w k (e.D U) v (t.D U):=by
 unfold HJ at h;split at h
 .split at h
  next hk=>cases h;simp only[ne]at hk;refine⟨_,rfl,_,rfl,?_,E.rng_ok hv _ hk.2⟩;rw[ar hk.1]
  .exact Xo
 .cases h;exact⟨_,rfl,_,rfl,rfl⟩
 .split at h
  next hg=>cases h;refine⟨_,rfl,rfl,?_⟩;rw[Ak hg]
  .exact Xo
 .split at h
  next hg=>cases h;simp only[ne]at hg;refine⟨_,rfl,rfl,?_⟩;rw[ar hg.1,cR hg.2];rfl
  .exact Xo
 .rw[Ay]at h;obtain⟨l,hl,rfl⟩:=h;unfold jo at hl;split at hl
  .rename_i id;split at hl
   .rename_i r hr;split at hl
    .rename_i hq;simp only[ne]at hq;cases hl;obtain⟨EY,DP⟩:=Vw.tw_some hr;obtain⟨s,hs,Al,hz⟩:=BS id (by simp[fU]) r EY;have CH:=cJ hq.1;subst CH;refine⟨s.v,by simp[C.den,hs],_,s,rfl,rfl,?_,?_,Al.rows,fun k hk=>Al.lt k (bO hk)⟩
     .rcases cC r.ks with⟨_,h1⟩|⟨_,h1⟩
      .exact(Al.2.2 (DP.trans h1)).n
      .exact(Al.1 (DP.trans h1)).n
     .unfold TRow;rcases cC r.ks with⟨_,h1⟩|⟨_,h1⟩
      .rw[h1];exact(Al.2.2 (DP.trans h1)).told ⟨hz.1,hz.2.1⟩
      .rw[h1];exact(Al.1 (DP.trans h1)).rd
    .cases hl
   .cases hl
  .cases hl;refine⟨_,rfl,[],⟨ZE,0,0,[]⟩,rfl,rfl,rfl,TRow.nil,⟨fun r hr=>(by cases hr),by simp⟩,fun k hk=>(by cases hk)⟩
  .cases hl
 .cases h;exact⟨_,rfl,rfl,rfl⟩
 .cases h;obtain⟨v,hv⟩:=hd rfl;exact⟨v,hv,rfl⟩
 .rename_i L id;split at h
  .rename_i r hr;split at h
   .rename_i hq;simp only[ne]at hq;cases h;obtain⟨EY,DP⟩:=Vw.tw_some hr;obtain⟨s,hs,Al,hz⟩:=BS id (by simp[fU]) r EY;have CH:=cJ hq.1.1;subst CH;obtain⟨hR,AY,hp,D1⟩:=yH (U:=U) hq.2.2;have hl:r.l.R U=L:=by
     rcases(fk _ _).mp hq.2.1 with h1|h1
     .exact(congrArg (E.R U) (E.same_eq h1)).trans hR
     .rw[E.same_eq h1];exact ar4 (by have:=hq.2.2;simp only[IF,ne]at this;exact this.1)
    have MV:=Al.1 (DP.trans D1);refine⟨s.v,by simp[C.den,hs],rfl,hq.2.2,s,rfl,?_,?_,fun k hk=>Al.lt k (bO hk)⟩
    .rw[<-hl];exact MV.n
    .unfold TRow;rw[D1,<-hl];exact MV.rd
   .exact Xo
  .exact Xo
 .exact Xo
def RrOk.mono{rw:Nat->Option RowOb}{l l':List Nat}(h:RrOk U base j w rw l)(hs:∀x∈l',x∈l):RrOk U base j w rw l':=fun id Ik r hr=>h id (hs id Ik) r hr
def rx{c:C}{cs:List C}:(∀x∈fU [c],x∈fU (c::cs))/\∀x∈fU cs,x∈fU (c::cs):=by cases c<;>simp[fU]<;>intro x hx<;>exact .inr hx
def ab4{vk:List VK}(hv:Vk U vk){j:J}{w:World}:∀{ks:List CK} {cs:List C} {t e:E},RrOk U base j w vw.rw (fU cs)->(∀c∈cs,CK.any∈ks->∃v,c.den U j=ZA v)->xo vk vw.tw ks cs t=ZA e->∃vs,Af U j cs=ZA vs/\lk w ks (e.D U) vs (t.D U)
 |[],[],t,e,_,_,h=>by cases h;exact⟨[],rfl,rfl,rfl⟩
 |k::ks,c::cs,t,e,BS,hd,h=>by simp only[xo,cY]at h;obtain⟨e',h1,h2⟩:=h;obtain⟨vs,h3,h4⟩:=ab4 hv (BS.mono rx.2) (fun c hc ha=>hd c (cM _ hc) (cM _ ha)) h1;obtain⟨v,h5,h6⟩:=aip hv (BS.mono rx.1) (fun e=>hd c bR (by rw[e];exact bR)) h2;exact⟨v::vs,by simp[Af,h3,h5],v,vs,_,rfl,h6,h4⟩
def zl(hv:Vk U vk){ks:List CK}{cs:List C}{t:E}(BS:RrOk U base j w vw.rw (fU cs))(hd:∀c∈cs,CK.any∈ks->∃v,c.den U j=ZA v)(h:Io vk vw.tw ks cs t=ZA e):∃vs,Af U j cs=ZA vs/\lk w ks (e.D U) vs (t.D U):=ab4 hv BS hd (xm h)
def nu{j:J}{w:World}{b kk:Nat}(hj:j.b b=ZA kk):∀{n off:Nat} {cs:List C},jR vw.ld b off n=ZA cs->FI U j w vw.ld (dW b off n)->cs.length=n/\∃vs,Af U j cs=ZA vs/\∀(m:Nat) u,vs[m]? =ZA u->w.cell? ⟨kk,off+m,ZE⟩=ZA u
 |0,off,cs,h,_=>by cases h;exact⟨rfl,[],rfl,fun m u hu=>by simp at hu⟩
 |n+1,off,cs,h,By=>by
   simp only[jR]at h;cases hc:vw.ld b off with
   |none=>rw[hc]at h;cases h
   |some c=>
     cases hl:jR vw.ld b (off+1) n with
     |none=>rw[hc,hl]at h;cases h
     |some l=>
       rw[hc,hl]at h;cases h;obtain⟨k',v,h1,h2,h3⟩:=By (b,off) (by simp[dW]) c hc;simp only at h1 h3;rw[hj]at h1;cases h1;obtain⟨e0,vs,e1,e2⟩:=nu hj hl (fun p hp=>By p (by simp[dW];exact .inr hp));refine⟨by simp[e0],v::vs,by simp[Af,h2,e1],fun m u hu=> ?_⟩;cases m with
       |zero=>simp at hu;subst hu;exact h3
       |succ m=>have:=e2 m u X2;rwa [show off+(m+1)=off+1+m by omega]
def air{vk:List VK}(hv:Vk U vk){j:J}{w:World}:∀{ss:List Sh} {xs:List V} {e:E},RrOk U base j w vw.rw (iD vw ss xs)->FI U j w vw.ld (uF ss xs)->NQ sp.hw U j w vw.fb->I8 vk vw ss xs=ZA e->(K5 vw xs).B U=ZB->∀us:List Value,(∀(i:Nat) x u,xs[i]? =ZA x->us[i]? =ZA u->x.den U j=ZA u)->us.length=xs.length->nq w ss (e.D U) us
 |[],[],e,_,_,_,h,_,us,hu,hl=>by
   cases h;cases us with
   |nil=>exact⟨rfl,rfl⟩
   |cons _ _=>cases hl
 |s::ss,x::xs,e,BS,By,Ev,h,De,us,hu,hl=>by
   obtain⟨Ha,hin2⟩:=ala De;simp only[I8,cY]at h;obtain⟨e',h1,h2⟩:=h;cases us with
   |nil=>cases hl
   |cons u us=>
     have h7:=hu 0 x u rfl rfl;have tail:RrOk U base j w vw.rw (iD vw ss xs)->FI U j w vw.ld (uF ss xs)->nq w ss (e'.D U) us:=fun a b=>air hv a b Ev h1 Ha us (fun i x u hx JT=>hu (i+1) x u Xz (by simpa using JT)) Yh
     unfold NU at h2;split at h2
     .rename_i ks cs;have Et:RrOk U base j w vw.rw (fU cs++iD vw ss xs):=BS;have Sg:∀c∈cs,CK.any∈ks->∃v,c.den U j=ZA v:=fun c hc _=>by
       simp only[V.den,Ay]at h7;obtain⟨vs,h8,_⟩:=h7;obtain⟨i,hi⟩:=List.getElem?_of_mem hc;obtain⟨v,_,hv⟩:=dH h8 i c hi;exact⟨v,hv⟩
      obtain⟨vs,h3,h4⟩:=zl hv (Et.mono (fun x hx=>List.mem_append_left _ hx)) Sg h2;simp only[V.den,h3,YU,bv]at h7;exact⟨vs,us,_,by rw[h7],h4,tail (Et.mono (fun x hx=>YX _ hx)) By⟩
     next ks ty id z e0=>have Et:RrOk U base j w vw.rw (fU [.ep id z e0 0]++iD vw ss xs):=BS;exact⟨_,us,_,rfl,atM hv (Et.mono (fun x hx=>List.mem_append_left _ hx)) (hin2 id z e0 rfl) h2 h7,tail (Et.mono (fun x hx=>YX _ hx)) By⟩
     .rename_i kc c _;have Gp:∀x∈fU [c]++iD vw ss xs,x∈iD vw (.one kc::ss) (.one c::xs):=by
       intro x hx;cases c<;>exact hx
      have Et:=BS.mono Gp;obtain⟨v,h3,h4⟩:=aip hv (Et.mono (fun x hx=>List.mem_append_left _ hx)) (fun _=>⟨u,h7⟩) h2;have h7':c.den U j=ZA u:=h7;rw[h3]at h7';cases h7';have DE:FI U j w vw.ld (uF ss xs):=by intro p hp;refine By p ?_;cases c<;>exact hp
      exact⟨_,us,_,rfl,h4,tail (Et.mono (fun x hx=>YX _ hx)) DE⟩
     .rename_i ks b;split at h2
      .rename_i Eo;rw[cY]at h2;obtain⟨cs,CT,h2⟩:=h2;have Et:RrOk U base j w vw.rw (fU cs++iD vw ss xs):=by
        have:iD vw (.ptr ks::ss) (.one (.ptr b 0)::xs)=fU cs++iD vw ss xs:=by simp only[iD,CT]
        rw[<-this];exact BS
       have Qr:FI U j w vw.ld (dW b 0 ks.length):=fun p hp=>By p (List.mem_append_left _ hp);have hrd2:FI U j w vw.ld (uF ss xs):=fun p hp=>By p (YX _ hp);obtain⟨kk,hk,rfl⟩:=mz h7;have Sg:∀c∈cs,CK.any∈ks->∃v,c.den U j=ZA v:=fun c hc _=>by obtain⟨_,vs,h8,_⟩:=nu (U:=U) (w:=w) hk (vw.rowok _ _ _ _ CT) Qr;obtain⟨i,hi⟩:=List.getElem?_of_mem hc;obtain⟨v,_,hv⟩:=dH h8 i c hi;exact⟨v,hv⟩
       obtain⟨vs,h3,h4⟩:=zl hv (Et.mono (fun x hx=>List.mem_append_left _ hx)) Sg h2;obtain⟨A0,CA⟩:=jQ _ _ _ (vw.rowok _ _ _ _ CT);have mem:∀(n o m:Nat),m<n->(b,o+m)∈dW b o n:=by
        intro n
        induction n with
        |zero=>intro o m hm;omega
        |succ n ih=>
          intro o m hm;cases m with
          |zero=>simp[dW]
          |succ m=>simp only[dW,YT];right;rw[show o+(m+1)=o+1+m by omega];exact ih (o+1) m Fn
       have cell:∀o u,vs[o]? =ZA u->w.cell? ⟨kk,o,ZE⟩=ZA u:=by
        intro o u hou;have As:o<cs.length:=by rw[<-aR h3];exact(cZ.1 hou).1
        have hc:=AH As;have hld:=CA o _ hc;obtain⟨k',v,g1,g2,g3⟩:=Qr (b,0+o) (mem _ 0 o Fn) _ hld;simp only at g1 g3;rw[hk]at g1;cases g1;obtain⟨u',JT,Ie⟩:=dH h3 o _ hc;rw[hou]at JT;cases JT;rw[g2]at Ie;cases Ie;rw[bJ]at g3;exact g3
       have As:kk<w.heap.size:=by
        have h0:0<vs.length:=by rw[aR h3];omega
        exact World.block_lt_of_cell? w ⟨kk,0,ZE⟩ (cell 0 vs[0] (AH h0))
       exact⟨kk,vs,us,_,rfl,h4,As,cell,tail (Et.mono (fun x hx=>YX _ hx)) hrd2⟩
      .exact XU
     .rename_i ks b;rw[cY]at h2;obtain⟨cs,CT,h2⟩:=h2;have Et:RrOk U base j w vw.rw (fU cs++iD vw ss xs):=by
       have:iD vw (.ptr ks::ss) (.one (.fp b 0)::xs)=fU cs++iD vw ss xs:=by simp only[iD,CT]
       rw[<-this];exact BS
      split at h2
      rotate_left
      .exact XU
      rename_i Eb;obtain⟨kk,hk,rfl⟩:=Tc h7;obtain⟨k',PN,g1,g2,g3,g4⟩:=Ev.2 b cs CT;have Sg:∀c∈cs,CK.any∈ks->∃v,c.den U j=ZA v:=fun c hc _=>by obtain⟨i,hi⟩:=List.getElem?_of_mem hc;obtain⟨v,_,hv⟩:=dH g3 i c hi;exact⟨v,hv⟩
      obtain⟨vs,h3,h4⟩:=zl hv (Et.mono (fun x hx=>List.mem_append_left _ hx)) Sg h2;rw[hk]at g1;cases g1;rw[h3]at g3;cases g3;exact⟨kk,_,us,_,rfl,h4,g2,fun o u hu=>g4 o u hu (by
       have As:o<cs.length:=by rw[<-aR h3];exact(cZ.1 hu).1
       unfold jG;rw[bV,AH As];exact Ct.1 Eb _ (List.getElem_mem _)),tail (Et.mono (fun x hx=>YX _ hx)) By⟩
     .exact XU
def kZ(v0:Nat):∀(ks:List CK) (n:Nat),(bz v0 n ks).length=(ks.filter CK.isSl).length
 |[],_=>rfl
 |k::ks,n=>by have ih:=kZ v0 ks (n+1);cases k<;>simp[bz,CK.isSl,List.filter_cons,ih]
def lA(v0:Nat):∀(ks:List CK) (n i:Nat) (r:RowOb),(bz v0 n ks)[i]? =ZA r->r.own=ZB
 |[],_,i,r,h=>by simp[bz]at h
 |k::ks,n,i,r,h=>by
   cases k with
   |sl a b=>
     cases i with
     |zero=>simp[bz]at h;rw[<-h]
     |succ i=>exact lA v0 ks (n+1) i r (by simpa[bz]using h)
   |_=>exact lA v0 ks (n+1) i r h
def nA(v0:Nat):∀(ks:List CK) (n i:Nat) (r:RowOb),(bz v0 n ks)[i]? =ZA r->r.kd=CR r.ks
 |[],_,i,r,h=>by simp[bz]at h
 |k::ks,n,i,r,h=>by
   cases k with
   |sl a b=>
     cases i with
     |zero=>simp[bz]at h;rw[<-h]
     |succ i=>exact nA v0 ks (n+1) i r (by simpa[bz]using h)
   |_=>exact nA v0 ks (n+1) i r h
def afa(hS:∀s∈cx.sm,SmOk P sp s)(AR:∀s∈cx.sm,∀s'∈cx.sm,s.key=s'.key->s=s')(Ad:o.op=.call c){f:Operand}(hc:c.callee=.value f)(hf:vw.ev f=ZA (.one (.fn g))){args:List V}(hl:Ey vw.ev c.args.toList=ZA args)(hinA:(K5 vw args).B U=ZB)(h:(aiI cx vw g args kw k).holds sp G U I)(hg:Good sp cx.sm U kw):Sound P sp U G I base cx vw o k kw:=by
 unfold aiI at h;split at h
 .exact h.elim
 .rename_i s e Tb;obtain⟨hs,hsf,Q0⟩:=qr Tb;have ok:=hS s hs;split at h
  .rename_i ks ty De;split at h
   .rename_i _ id;split at h
    .rename_i r P9;split at h
     .rename_i Ea;simp only[ne]at Ea;obtain⟨AK,CH,C5⟩:=Ea;replace CH:=cJ CH;replace C5:=Ak C5;obtain⟨CM,DQ,h⟩:=h;obtain⟨L',hF,AY,Cv⟩:=ok.inpl ks ty De (r.l.R U) CM;have LV:U.l kw.vk.length=L':=by
       have:eqs U (sp.F s.key [.l (r.l.R U)]) kw.vk.length 0 [.sl ks ty]:=DQ;rw[hF]at this;exact this.1
      refine⟨_,_,h,⟨hg.pc,?_,hg.log⟩,⟨rfl,by simp⟩,fun j a w hb Av By Cb BS Ev K Q hK=> ?_⟩
      .refine⟨fun n k hn=> ?_,fun n k hn=> ?_⟩
       .rcases bt n kw.vk.length with h1|h1
        .rw[A9 h1]at hn;exact hg.vk.i n k hn
        .rw[Bl h1]at hn;cases hd:n-kw.vk.length with
         |zero=>rw[hd]at hn;simp at hn
         |succ m=>rw[hd]at hn;simp at hn
       .rcases bt n kw.vk.length with h1|h1
        .rw[A9 h1]at hn;exact hg.vk.l n k hn
        .rw[Bl h1]at hn;cases hd:n-kw.vk.length with
         |zero=>rw[hd]at hn;simp only[cy,bv,VK.list.injEq]at hn;obtain rfl:n=kw.vk.length:=Fn;rw[LV,<-hn];exact AY
         |succ m=>rw[hd]at hn;simp at hn
      .obtain⟨EY,DP⟩:=Vw.sw_some P9;obtain⟨sv,Ku,AV⟩:=BS id bR r EY;have MV:SlOk U base w sv r:=by
        rcases AV.1.cases with⟨_,h1⟩|⟨h1,_⟩|⟨h1,_⟩
        .exact h1
        .rw[DP]at h1;cases h1
        .rw[DP]at h1;cases h1
       have hor:OwnRow w base ty ks sv (r.l.R U):=by rw[<-CH,<-C5];exact⟨MV.n,MV.own AK,MV.rows,MV.pos⟩
       obtain⟨OU,IW⟩:=Cv base sv w hor;obtain⟨h1,h2⟩:=jg (j:=j) (a:=a) hl (fun x hx=>Av x Xp);have h4:=Av f (by simp[Ad,Op.operands,Call.operands,hc]) _ hf;have h5:a.eval f=.func (.func g) #[] #[]:=(ZN h4).symm;have h7:c.args.map a.eval = #[sv.v]:=by
        have e2:c.args.toList.map a.eval=[sv.v]:=by
         match hm:c.args.toList.map a.eval,h2 with
         |[y],_=>have Ie:(j.s id).map SV.v=ZA y:=h1 0 _ y rfl (by rw[hm];rfl);rw[Ku]at Ie;rw[ZN Ie.symm]
        have e3:c.args.map a.eval=(c.args.toList.map a.eval).toArray:=by rw[<-fL]
        rw[e3,e2]
       have h6:(execOp a.eval o).run P w=(callFunc s.f #[sv.v]).run P w:=by rw[hsf];simp only[execOp,Ad,resolve,hc,h5,h7,Deferred.ofValue,ZI,Sem.run_pure,Result.andThen_ok,invoke,Array.empty_append,Array.append_empty]
       unfold Oper.wp;rw[h6,OU];show Calls P s.f _ w _;refine IW.mono ?_;rintro e' w' ⟨rfl,ho,hgr⟩;refine hK (.tuple #[]) j w' rfl ⟨rfl,sv,Ku,hgr,RowOk.mk_own (r:={r with l:=.g kw.vk.length}) DP ?_ ?_ ?_ ?_,fun e=>by rw[show r.kd=.sl from DP]at e;cases e⟩
       .show sv.n=(U.l kw.vk.length).length;rw[LV];exact ho.n
       .show RowsIn r.ks (U.l kw.vk.length);rw[LV,CH];exact ho.rows
       .exact MV.pos
       .show w'.ownsRow base r.ty r.ks.length sv.v sv.n (flat r.ks (U.l kw.vk.length));rw[LV,CH,C5];exact ho.own
     .exact h.elim
    .exact h.elim
   .exact h.elim
  rename_i De;have Mi:∀v0 An,KwGe An kw->sp.pre s.key (e.D U)->eqs U (sp.F s.key (e.D U)) v0 0 s.ks->(k {val:=Oy s v0 vw.nid,rd:=uF s.args args,rr:=iD vw s.args args,re:=.mk (bz v0 0 s.ks)} An).holds sp G U I->Good sp cx.sm U An->Sound P sp U G I base cx vw o k kw:=by
   intro v0 An K0 CM DQ hh CQ;refine⟨_,An,hh,CQ,K0,fun j a w hb Av By Cb BS Ev K Q hK=> ?_⟩;obtain⟨h1,h2⟩:=jg (j:=j) (a:=a) hl (fun x hx=>Av x Xp);have h3:=air hg.vk BS By Ev Q0 hinA _ h1 h2;have h4:=Av f (by simp[Ad,Op.operands,Call.operands,hc]) _ hf;have h5:a.eval f=.func (.func g) #[] #[]:=(ZN h4).symm;have h7:c.args.map a.eval=(c.args.toList.map a.eval).toArray:=by rw[<-fL]
   have h6:(execOp a.eval o).run P w=(callFunc s.f (c.args.toList.map a.eval).toArray).run P w:=by rw[hsf,<-h7];simp only[execOp,Ad,resolve,hc,h5,Deferred.ofValue,ZI,Sem.run_pure,Result.andThen_ok,invoke,Array.empty_append,Array.append_empty]
   have Hv:∀v w',RetOk s.res s.tup w w' (sp.F s.key (e.D U)) v->K (a.put o.dst v) w':=by
    intro v w' HS;obtain⟨hx,_,svs,Gp,KY,AY,Pc,hzz⟩:=HS;refine hK v ((j.putL vw.nid svs).addzs (svs.flatMap (·.z))) w' (KY U v0 vw.nid _ DQ (fun i u hu=> ?_)) ⟨hx,svs,by rw[Gp,kZ];rfl,fun i u r hu hr=> ?_,Pc,hzz,rfl⟩
    .rw[arh];simp[J.putL,hu]
    .exact⟨AY U v0 DQ i u r hu hr,lA v0 _ _ _ _ hr,fun h=>absurd ((nA v0 _ _ _ _ hr).symm.trans h) yW⟩
   rcases ok.calls De _ _ w h3 CM Ev.1 with⟨v,w',hr,HS⟩|⟨OU,IW⟩
   .rw[hr]at h6;exact dT h6 (Hv v w' HS)
   .unfold Oper.wp;rw[h6,OU];show Calls P s.f _ w _;refine IW.mono ?_;rintro e' w' ⟨v,rfl,HS⟩;exact Hv v w' HS
  split at h
  next v0 hlog=>obtain⟨s',Bj,B2,CM,DQ⟩:=hg.log _ (sd hlog);have:=AR s' Bj s hs B2;subst this;exact Mi v0 kw (.refl _) CM DQ h hg
  .obtain⟨CM,DQ,h⟩:=h;refine Mi kw.vk.length {kw with log:=(s.key,e,kw.vk.length)::kw.log,vk:=kw.vk++s.ks.map xw} ⟨rfl,by simp⟩ CM DQ h ⟨hg.pc,?_,?_⟩
   .exact aub hg.vk (ok.rng _ (ais hg.vk Q0) CM U _ DQ)
   .intro p hp;rcases YT.1 hp with rfl|hp
    .exact⟨s,hs,rfl,CM,DQ⟩
    .exact hg.log p hp
def aj1(hS:∀s∈cx.sm,SmOk P sp s)(AR:∀s∈cx.sm,∀s'∈cx.sm,s.key=s'.key->s=s')(Ad:o.op=.call c){f:Operand}(hc:c.callee=.value f)(hf:vw.ev f=ZA (.one (.fn g))){args:List V}(hl:Ey vw.ev c.args.toList=ZA args)(h:(aq2 cx vw g args kw k).holds sp G U I)(hg:Good sp cx.sm U kw):Sound P sp U G I base cx vw o k kw:=by
 unfold aq2 at h;obtain⟨An,h1,g1,_,l1⟩:=aS _ _ _ h hg;split at h1
 .rename_i De;refine Sound.lv ?_ l1;unfold anf at h1;split at h1
  .exact afa hS AR Ad hc hf hl De h1 g1
  .exact h1.elim
 .exact h1.elim
def ajY{c:Operand}(Ad:o.op=.pick c x y){u v:V}(hc:vw.ev c=ZA (.one (.bool e)))(hx:vw.ev x=ZA u)(hy:vw.ev y=ZA v)(h:(AL e (fun b kw=>k {val:=if b then u else v} kw) kw).holds sp G U I)(hg:Good sp cx.sm U kw):Sound P sp U G I base cx vw o k kw:=by
 obtain⟨An,h1,g1,_,l1⟩:=aS _ _ _ h hg;refine⟨_,An,h1,g1,l1,OpOk.pure fun j a w _ Av _ _ _=>⟨if e.B U then a.eval x else a.eval y,?_,?_⟩⟩
 .have h2:=Av x Or _ hx;have h3:=Av y Or _ hy;cases e.B U
  .exact h3
  .exact h2
 .have h2:=kE (Av c Or _ hc);simp[execOp,Ad,h2,asBool,ZI]
def pY(hT:∀t i,(t,i)∈cx.ty->TIok P t i):∀(fs:List Field) (l pl:List (Nat×Nat)),fs.map (fun f=>(f.offset,f.type))=l->oG cx.ty l=ZA pl->∀w,(fs.mapM (m:=Sem) fun f=>do pure (f.offset,<-sizeOf f.type)).run P w=.ok pl w
 |[],l,pl,hl,h,w=>by subst hl;cases h;simp
 |f::fs,l,pl,hl,h,w=>by
   subst hl;simp only[List.map_cons,oG]at h;split at h
   next i r hi hr=>cases h;have:=(hT _ _ (ab hi)).size;rw[List.mapM_cons];simp only[ZI,this,Result.andThen_ok,Sem.run_pure];rw[pY hT fs _ r rfl hr w];simp
   .exact Xo
def afb(hT:∀t i,(t,i)∈cx.ty->TIok P t i)(Ad:o.op=.build t ps)(Gy:K8 vw.ev ps.toList=ZA A5){v:V}(hv:aiM cx t A5=ZA v)(h:(k {val:=v} kw).holds sp G U I)(hg:Good sp cx.sm U kw):Sound P sp U G I base cx vw o k kw:=by
 refine⟨_,kw,h,hg,.refl _,OpOk.pure fun j a w _ Av _ _ _=> ?_⟩;obtain⟨h1,h2⟩:=Wp (a:=a) (j:=j) Gy (fun x hx=>Av x (by
  simp only[Ad,Op.operands];simpa using hx))
 have h3:(ps.map fun p=>(p.1,a.eval p.2)).toList=ps.toList.map fun p=>(p.1,a.eval p.2):=Array.toList_map ..;have hx:execOp a.eval o=(do let v <-Instr.build t (ps.map fun p=>(p.1,a.eval p.2));pure (.value v)):=by simp only[execOp,Ad]
 unfold aiM at hv;split at hv
 .rename_i i hi;have ht:=hT _ _ (ab hi);obtain⟨z,hz,I7⟩:=ht.zero;split at hv
  .rename_i n et ha;split at hv
   next ie BE=>rw[Ay]at hv;obtain⟨cs,CT,rfl⟩:=hv;obtain⟨cells,h4,h5⟩:=qs (j:=j) A5 _ cs _ z.cells CT (I7 U j) h1 h2;refine⟨.agg cells,by simp[V.den,h5],?_⟩;have hs:=(hT _ _ (ab BE)).size;rw[hx];simp[Instr.build,ZI,hz,run_underlying (ht.arr n et ha),hs,h3,h4]
   .cases hv
  .rename_i ha;split at hv
   .rename_i Bu;split at hv
    .rename_i pl hpl;rw[Ay]at hv;obtain⟨cs,CT,rfl⟩:=hv;obtain⟨cells,h4,h5⟩:=qs (j:=j) A5 _ cs _ z.cells CT (I7 U j) h1 h2;refine⟨.agg cells,by simp[V.den,h5],?_⟩;obtain⟨fs,Rq,FZ⟩:=ht.str Bu ha;have hm:=pY hT fs.toList i.fields pl FZ hpl w;have Hy:(fs.mapM (m:=Sem) fun f=>do pure (f.offset,<-sizeOf f.type)).run P w=.ok pl.toArray w:=by
      rw[Array.mapM_eq_mapM_toList];rw[show(List.toArray <$> List.mapM (fun f=>(do pure (f.offset,<-sizeOf f.type):Sem (Nat×Nat))) fs.toList:Sem (Array (Nat×Nat)))=(do let l <-List.mapM (fun f=>(do pure (f.offset,<-sizeOf f.type):Sem (Nat×Nat))) fs.toList;pure l.toArray)from rfl];rw[ZI,hm];rfl
     have h6:(fun m:Nat=>pl.toArray[m]?)=fun m:Nat=>pl[m]? :=by funext m;simp
     rw[hx];simp only[Instr.build,ZI,hz,run_underlying Rq,Result.andThen_ok,Hy,h3,h6,h4,Sem.run_pure]
    .cases hv
   .cases hv
 .cases hv
def ase(hT:∀t i,(t,i)∈cx.ty->TIok P t i)(hS:∀s∈cx.sm,SmOk P sp s)(AR:∀s∈cx.sm,∀s'∈cx.sm,s.key=s'.key->s=s')(h:(opK cx vw o.op kw k).holds sp G U I)(hg:Good sp cx.sm U kw):Sound P sp U G I base cx vw o k kw:=by
 cases Ad:o.op<;>rw[Ad]at h<;>simp only[opK]at h
 case move x=>
  split at h
  next v hv=>exact aan (.inl Ad) hv h hg
  .exact h.elim
 case assign x=>
  split at h
  next v hv=>exact aan (.inr Ad) hv h hg
  .exact h.elim
 case alloc t=>
  split at h
  next i hi=>exact afc hT Ad hi h hg
  .exact h.elim
 case box t x=>
  split at h
  .rename_i v hv;split at h
   next hf=>exact aoV Ad hv hf h hg
   .exact h.elim
  .exact h.elim
 case load t x=>
  split at h
  .rename_i b off i hx hi;split at h
   .rename_i Bu;split at h
    next cs CT=>exact vo hT Ad hx hi Bu (vw.rowok _ _ _ _ CT) h hg
    .exact h.elim
   .rename_i Bu;split at h
    next c hc=>exact vp hT Ad hx hi Bu hc h hg
    .exact h.elim
  .rename_i b off i hx hi;split at h
   .rename_i Bu;split at h
    .rename_i cs CT;rw[cY]at CT;obtain⟨c0,JZ,CT⟩:=CT;split at h
     next Eb=>exact tq hT Ad hx hi Bu (by have:=afo (ld:=fun b o=>(vw.fb b).bind (·[o]?)) (b:=b) (k:=0) CT (fun i=>by simp[JZ]);rwa [bJ]at this) Eb h hg
     .exact h.elim
    .exact h.elim
   .rename_i Bu;split at h
    .rename_i c hc;split at h
     next Eb=>exact tu hT Ad hx hi Bu hc Eb h hg
     .exact h.elim
    .exact h.elim
  .rename_i b o0 n sz e off i hx hi;split at h
   .rename_i cs CT;split at h
    next hq=>exact ae0 hT Ad hx hi CT (Ah hq) h hg
    .exact h.elim
   .exact h.elim
  .rename_i id BC e off i hx hi;split at h
   .rename_i r hr;split at h
    next hq=>simp only[ne,aB]at hq;exact ae1 hT Ad hx hi hr (Ak hq.1) hq.2 h hg
    .exact h.elim
   .exact h.elim
  .exact h.elim
 case store t x y=>
  split at h
  .rename_i b off v i hx hy hi;split at h
   next hq=>simp only[ne]at hq;exact aeY hT Ad hx hy hi hq.1 hq.2.1 hq.2.2 h hg
   .exact h.elim
  .rename_i b o0 n sz e off v i hx hy hi;split at h
   .rename_i cs CT;split at h
    next hq=>simp only[ne,aB]at hq;exact acy hT Ad hx hy hi CT hq.1 (Ak hq.2.1) hq.2.2.1 (Ak hq.2.2.2) h hg
    .exact h.elim
   .exact h.elim
  .rename_i id BC e off v i hx hy hi;split at h
   .rename_i r hr;split at h
    next hq=>simp only[ne,aB]at hq;exact acz hT Ad hx hy hi hr hq.1 (Ak hq.2.1) hq.2.2.1 (Ak hq.2.2.2.1) hq.2.2.2.2 h hg
    .exact h.elim
   .exact h.elim
  .exact h.elim
 case nilCheck x=>
  split at h
  next b off hx=>exact gI Ad hx (.inl (.inl ⟨b,off,rfl⟩)) h hg
  next b off hx=>exact gI Ad hx (.inl (.inr (.inl ⟨b,off,rfl⟩))) h hg
  next b o0 n sz e off hx=>exact th Ad hx h hg
  next g hx=>exact gI Ad hx (.inr ⟨g,rfl⟩) h hg
  next id BC e off hx=>exact gI Ad hx (.inl (.inr (.inr ⟨id,BC,e,off,rfl⟩))) h hg
  next g fs ps hx=>exact tj Ad hx h hg
  .exact h.elim
  .exact h.elim
 case binOp op xt x y yt=>
  split at h
  next v u hx hy=>exact aoW hT Ad hx hy h hg
  .exact h.elim
 case unOp op t x=>
  split at h
  next e hx=>exact aeX Ad hx h hg
  next kd e hx=>exact aeX Ad hx h hg
  next kd e hx=>exact aeX Ad hx h hg
  .exact h.elim
 case convert s d x=>
  split at h
  .rename_i k0 e i is hx hi Xa;split at h
   next kd hk=>exact aj0 hT Ad hx hi Xa hk h hg
   .exact h.elim
  .exact h.elim
 case fieldAddr s x f=>
  split at h
  .rename_i b off i hx hi;split at h
   next fo ft hf=>exact fF hT Ad hx hi hf (fun j v hv=>wL hv) h hg
   .exact h.elim
  .rename_i b off i hx hi;split at h
   next fo ft hf=>exact fF hT Ad hx hi hf (fun j v hv=>abv hv) h hg
   .exact h.elim
  .rename_i b o0 n sz e off i hx hi;split at h
   next fo ft hf=>exact fF hT Ad hx hi hf (fun j v hv=>abu hv) h hg
   .exact h.elim
  .rename_i id BC e off i hx hi;split at h
   next fo ft hf=>exact fF hT Ad hx hi hf (fun j v hv=>abw hv) h hg
   .exact h.elim
  .exact h.elim
 case field s x f=>
  split at h
  .rename_i cs i hx hi;split at h
   .rename_i fo ft hf;split at h
    next v hv=>exact ae4 hT Ad hx hi hf hv h hg
    .exact h.elim
   .exact h.elim
  .exact h.elim
 case indexAddr t x y=>
  split at h
  .rename_i b off k0 e i hx hy hi;split at h
   .rename_i n et ha;split at h
    .rename_i ie BE;split at h
     .exact vq hT Ad hx hy hi ha BE h hg
     .exact iI hT Ad hx hy hi ha BE (c':=fun m=>.ptr b (off+m*ie.size)) (fun m j v hv=>wL hv) h hg
    .exact h.elim
   .exact h.elim
  .rename_i id BC e0 off k0 e i hx hy hi;split at h
   .rename_i n et ha;split at h
    next ie BE=>exact iI hT Ad hx hy hi ha BE (c':=fun m=>.ep id BC e0 (off+m*ie.size)) (fun m j v hv=>abw hv) h hg
    .exact h.elim
   .exact h.elim
  .rename_i id k0 e i hx hy hi;split at h
   .rename_i et ha;split at h
    .rename_i ie r BE hr;split at h
     next CH=>exact vr hT Ad hx hy hi ha BE hr (Ak CH) h hg
     .exact h.elim
    .exact h.elim
   .exact h.elim
  .exact h.elim
  .exact h.elim
 case index t x y=>
  split at h
  .rename_i cs k0 e i hx hy hi;split at h
   .rename_i n et ha;split at h
    next ie BE=>exact ae3 hT Ad hx hy hi ha BE h hg
    .exact h.elim
   .exact h.elim
  .exact h.elim
 case pick c x y=>
  split at h
  next e u v hc hx hy=>exact ajY Ad hc hx hy h hg
  .exact h.elim
 case build t ps=>
  split at h
  .rename_i A5 Gy;split at h
   next v hv=>exact afb hT Ad Gy hv h hg
   .exact h.elim
  .exact h.elim
 case buildSlice t n ps=>
  split at h
  .rename_i A5 i Gy hi;split at h
   .rename_i et ha;split at h
    .rename_i ie BE;split at h
     .rename_i ks cs CH En;split at h
      .rename_i l hl;split at h
       next hq=>simp only[ne,aB]at hq;exact qT hT Ad Gy hi ha BE En hl ⟨hq.1,hq.2.1,Ak hq.2.2⟩ h hg
       .exact h.elim
      .exact h.elim
     .exact h.elim
    .exact h.elim
   .exact h.elim
  .exact h.elim
 case makeSlice t x y=>
  split at h
  .rename_i k1 e k2 e' i hx hy hi;split at h
   .rename_i et ha;split at h
    .rename_i ie BE;split at h
     .rename_i ks CH;split at h
      .rename_i r hr;split at h
       next hq=>simp only[ne,aB]at hq;exact tk hT Ad hx hy hi ha BE hr ⟨hq.1,hq.2.1,Ak hq.2.2.1,hq.2.2.2⟩ h hg
       .exact h.elim
      .exact h.elim
     .exact h.elim
    .exact h.elim
   .exact h.elim
  .exact h.elim
 case slice t x lo Bq mx=>first|exact h.elim|(cases mx<;>exact h.elim)
 case makeMap t rs=>
  cases rs with
  |some _=>exact h.elim
  |none=>exact h.elim
 case lookup t x y ok=>exact h.elim
 case mapUpdate t x y z=>exact h.elim
 case range t x=>exact h.elim
 case entry x=>exact h.elim
 case makeFunc fn fs ps=>
  split at h
  next g x y hx hy=>exact vn Ad hx hy h hg
  .exact h.elim
 case extract x n=>
  split at h
  .rename_i vs hx;split at h
   next cs hp=>exact pt Ad hx hp (.inl ⟨cs,rfl,rfl⟩) h hg
   next c hp=>exact pt Ad hx hp (.inr ⟨c,rfl,rfl⟩) h hg
   .exact h.elim
  .exact h.elim
 case call c=>
  split at h
  .rename_i f hc;split at h
   next g args hf hl=>exact aj1 hS AR Ad hc hf hl h hg
   .exact h.elim
  .rename_i hc;split at h
   .rename_i id t hl C5;split at h
    .rename_i i r hi hr;split at h
     next Gp=>exact aoU hT Ad hc hl C5 hi Gp hr h hg
     .exact h.elim
    .exact h.elim
   .rename_i t hl C5;split at h
    .rename_i i hi;split at h
     next Gp=>exact ajZ hT Ad hc hl C5 hi Gp h hg
     .exact h.elim
    .exact h.elim
   .exact h.elim
  .rename_i hc;split at h
   .rename_i s id t t' hl C5;split at h
    .rename_i i r hi hr;split at h
     .rename_i et ha;split at h
      .rename_i ie BE;split at h
       .rename_i hq;simp only[ne,aB]at hq;have htt:=Ak hq.1;subst htt;have GD:r.ty=et/\r.ks.length=ie.size/\0<ie.size/\ie.bytes<=65536:=⟨Ak hq.2.1,Ak hq.2.2.1,hq.2.2.2.1,hq.2.2.2.2⟩
        split at h
        .exact yj hT Ad hc hl C5 hi ha BE hr GD h hg
        .rename_i old;split at h
         .rename_i q Rk;split at h
          next He=>simp only[ne]at He;exact acE hT Ad hc hl C5 hi ha BE hr Rk GD ⟨He.1,Ak He.2.1,cJ He.2.2.1⟩ h hg
          .exact h.elim
         .exact h.elim
        .exact h.elim
       .exact h.elim
      .exact h.elim
     .exact h.elim
    .exact h.elim
   .exact h.elim
  .rename_i hc;split at h
   .rename_i k0 e l hl;split at h
    next e' he=>exact al8 ZC Ad hc hl he h hg
    .exact h.elim
   .exact h.elim
  .rename_i hc;split at h
   .rename_i k0 e l hl;split at h
    next e' he=>exact al8 ZB Ad hc hl he h hg
    .exact h.elim
   .exact h.elim
  .exact h.elim
 all_goals exact h.elim
end
def IC:E->E
 |.lrep (.len x) _=>.len x
 |a=>dG a
def asy(U:Env)(a:E):(IC a).I U=((a.R U).length:Int):=by
 unfold IC;split
 .simp[E.R,E.I]
 .exact dP U _
def jb(l n:E):E:=match n with
 |.p z=>if fC z 0 then .ln else if n.same (IC l)then l else .ltake l n
 |n=>if n.same (IC l)then l else .ltake l n
def jc(l n:E):E:=match n with
 |.p z=>if fC z 0 then l else if n.same (IC l)then .ln else .ldrop l n
 |n=>if n.same (IC l)then .ln else .ldrop l n
def oD{n:E}(h:n.same (IC l)=ZB):(n.I U).toNat=(l.R U).length:=by rw[E.same_eq h,asy];rfl
def ua(U:Env)(l n:E):(jb l n).R U=(l.R U).take (n.I U).toNat:=by
 unfold jb;split
 .split
  next z hz=>rw[cR hz];rfl
  .split
   next h=>rw[oD h,List.take_length]
   .rfl
 .split
  next h=>rw[oD h,List.take_length]
  .rfl
def uc(U:Env)(l n:E):(jc l n).R U=(l.R U).drop (n.I U).toNat:=by
 unfold jc;split
 .split
  next z hz=>rw[cR hz];rfl
  .split
   next h=>rw[oD h,List.drop_length];rfl
   .rfl
 .split
  next h=>rw[oD h,List.drop_length];rfl
  .rfl
def Mn(l lo hi:E)(mx:Option E):E:=
 ib (ew (Bt lo (.p 0))) (ib (ew (Bt hi lo)) (ib (ew (Bt (dG l) hi)) (match mx with
  |none=>.tt ZB
  |some m=>ib (ew (Bt m hi)) (ew (Bt (dG l) m)))))
def aru{mx:Option E}(h:(Mn l lo hi mx).B U=ZB):0<=lo.I U/\lo.I U<=hi.I U/\hi.I U<=((l.R U).length:Int)/\∀m,mx=ZA m->hi.I U<=m.I U/\m.I U<=((l.R U).length:Int):=by unfold Mn at h;simp only[dQ,di,dq,dP,ne,ZP,decide_eq_false_iff_not,E.I]at h;obtain⟨h1,h2,h3,h4⟩:=h;replace h1:¬lo.I U<0:=Ab h1;refine⟨by omega,by omega,by omega,fun m hm=> ?_⟩;subst hm;simp only[dQ,di,dq,dP,ne,ZP,decide_eq_false_iff_not]at h4;omega
def J7(vw:Vw)(o:Option Operand)(d:E):Option E:=match o with
 |none=>ZA d
 |some y=>match vw.ev y with
   |some (.one (.int _ e))=>ZA e
   |_=>ZE
def JE(a b:E):E:=match a with
 |.p z=>if fC z 0 then b else jX .add .i64 a b
 |a=>jX .add .i64 a b
def UY:C->C->Option Bool
 |.ptr _ _,.np|.fp _ _,.np|.np,.ptr _ _|.np,.fp _ _|.ep _ _ _ _,.np=>ZA ZC
 |.np,.np=>ZA ZB
 |_,_=>ZE
section
variable {P:Program}{sp:Spec}{U:Env}{G:Env->E->Prop}{I:Nat->List Dt->Prop}{base:Nat}{cx:Cx}{vw:Vw}{o:Oper}{k:Eff->Kw->Tr}
def act{l:Nat}(hm:m<=s.c):∀k,(s.cut BC l h m).blk ZC=ZA k->s.blk ZC=ZA k:=by
 intro k hk;have hc:m-l≠0:=fun hc=>by unfold SV.blk at hk;simp[SV.cut,hc]at hk
 refine qG Fn ?_;have hk:=aA hk;obtain⟨a,n,c,z⟩:=s;simp only[SV.cut,SV.v]at hk ⊢;rw[if_neg Fn]at hk;cases a with
 |none=>simp[Value.ownBlock]at hk
 |some a=>simp only[YU,Value.ownBlock,bv]at hk ⊢;rw[<-hk];unfold Addr.add;split<;>rfl
def ajn{l:Nat}(Al:SlOk U base w s r)(hq:q.ks=r.ks/\q.own=ZC)(hL:q.l.R U=((r.l.R U).take h).drop l)(h1:l<=h)(h2:h<=s.n)(h3:h<=m)(h4:m<=s.c):
  SlOk U base w (s.cut r.ks.length l h m) q:=by
 obtain⟨r1,r2,r3,r4,r5⟩:=Al.rd;have hn:=Al.n;have A0:(q.l.R U).length=h-l:=by rw[hL,List.length_drop,List.length_take];omega
 have AY:∀x∈q.l.R U,av r.ks x=ZB:=fun x hx=>Al.rows.row x (by rw[hL]at hx;exact List.mem_of_mem_take (List.mem_of_mem_drop hx));refine⟨A0.symm,⟨by rw[hq.1];exact AY,by rw[A0];omega⟩,by rw[hq.1];exact Al.pos,fun k hk=> ?_,fun ho=>(by rw[hq.2]at ho;cases ho),?_⟩
 .rw[hq.2]at hk;exact Al.lt k (bO (act h4 k hk))
 .rw[hq.1];have FZ:flat r.ks (q.l.R U)=((flat r.ks (r.l.R U)).take (h*r.ks.length)).drop (l*r.ks.length):=by
   rw[xf h Al.rows.row,xg l (fun x hx=>Al.rows.row x (List.mem_of_mem_take hx)),hL]
  refine⟨by rw[bP AY,A0];rfl,by simp only[SV.cut];omega,by simp only[SV.cut];omega,fun ha=> ?_,fun a ha i u hi=> ?_⟩
  .simp only[SV.cut]at ha ⊢;split at ha
   .have:=r4 ha;omega
   .rw[Option.map_eq_none_iff]at ha;have:=r4 ha;omega
  .simp only[SV.cut]at ha;have As:i<(flat r.ks (q.l.R U)).length:=(cZ.1 hi).1;rw[bP AY,A0]at As;split at ha
   next hc=>have:h-l=0:=Fn;rw[this]at As;omega
   .rw[Ay]at ha;obtain⟨a0,Ll,rfl⟩:=ha;rw[bU];refine r5 a0 Ll _ u ?_;rw[FZ,List.getElem?_drop,List.getElem?_take]at hi;split at hi
    .exact hi
    .cases hi
def ahW{o1:Option Operand}{d:E}(h:J7 vw o1 d=ZA e):(o1=ZE/\e=d)\/∃y kd,o1=ZA y/\vw.ev y=ZA (.one (.int kd e)):=by
 unfold J7 at h;split at h
 .cases h;exact .inl ⟨rfl,rfl⟩
 .rename_i y;split at h
  next kd e' he=>cases h;exact .inr ⟨y,kd,rfl,he⟩
  .exact Xo
def acA(hT:∀t i,(t,i)∈cx.ty->TIok P t i)(Ad:o.op=.indexAddr t x y){id:Nat}{mx:Option E}(hx:vw.ev x=ZA (.one (.wn id sz lo hi mx)))(hy:vw.ev y=ZA (.one (.int k0 e)))(Bq:am t cx.ty=ZA i)(ha:i.sle=ZA et)(BE:am et cx.ty=ZA ie)(hr:vw.sw id=ZA r)(CH:r.ks.length=ie.size)(BT:sz=ie.size)(h:(AL (Mn r.l lo hi mx) (fun ok kw=>if ok then AL (GF e (jc (jb r.l hi) lo)) (fun b kw=>if b then k {val:=.one (.ep id ie.size (JE lo e) 0),rr:=[id]} kw else .panic) kw else .stuck 185) kw).holds sp G U I)(hg:Good sp cx.sm U kw):Sound P sp U G I base cx vw o k kw:=by
 obtain⟨Ch,h1,g1,_,l1⟩:=aS _ _ _ h hg;split at h1
 .rename_i hwin;obtain⟨b1,b2,b3,b4⟩:=aru hwin;obtain⟨Dy,h2,g2,_,l2⟩:=aS _ _ _ h1 g1;rw[wY]at h2;split at h2
  .rename_i hb;simp only[ne,aB,uc,ua,List.length_drop,List.length_take]at hb;refine⟨_,Dy,h2,g2,l2.trans l1,OpOk.pure fun j a w _ Av _ BS _=> ?_⟩;obtain⟨s,hs,Al⟩:=BS.sl id (by simp) r hr;have hd:=Av x Or _ hx;simp only[V.den,C.den,hs,YU,bv]at hd;have hq:=dh (Av y Or _ hy);have hu:=(hT _ _ (ab Bq)).sle et ha;have hesz:=(hT _ _ (ab BE)).size;have hn:=Al.n;have By:=Al.rd;have A0:=Al.rows.len;obtain⟨sa,sn,sc,sz⟩:=s;simp only at hn;have WR:(JE lo e).I U=lo.I U+e.I U:=by
    have JW:(jX .add .i64 lo e).I U=lo.I U+e.I U:=by rw[ud];show IntKind.i64.wrap _=_;refine ph ?_;rw[bA];simp only[maxLen]at A0;simp only[IntKind.min,IntKind.max,IntKind.signed,IntKind.bits];simp;omega
    unfold JE;split
    .split
     next z hz=>have:=cR hz;simp only[E.I]at *;omega
     .exact JW
    .exact JW
   cases sa with
   |none=>have:=(By.2.2.2.1 rfl).1;simp only at this;omega
   |some p=>
     have hm:Nt U mx sc≠(lo.I U).toNat:=by
      have hnc:=By.2.1;simp only at hnc;cases mx with
      |none=>simp only[Nt];omega
      |some m=>have:=b4 m rfl;simp only[Nt];omega
     refine⟨.pointer (ZA (p.add (((JE lo e).I U).toNat*ie.size+0))),by simp[V.den,C.den,hs,SV.elem],?_⟩;have As:(0:Int)<=e.I U/\e.I U<(((hi.I U).toNat-(lo.I U).toNat:Nat):Int):=Fn;have hadr:(p.add ((lo.I U).toNat*ie.size)).add ((e.I U).toNat*ie.size)=p.add (((JE lo e).I U).toNat*ie.size+0):=by rw[bU,WR];congr 1;have e3:(lo.I U+e.I U).toNat=(lo.I U).toNat+(e.I U).toNat:=Fn;rw[e3,ZS,Nat.add_mul]
     subst BT;simp[execOp,Ad,<-hd,SV.v,SV.cut,hm,hq,Instr.indexAt,run_underlying hu,asIntOf,As,hesz,ZI,hadr]
  .exact h2.elim
 .exact h1.elim
def agQ{c d:C}{b:Bool}(h:UY c d=ZA b){x y:Value}(hx:(V.one c).den U j=ZA x)(hy:(V.one d).den U j=ZA y):∃p q,x=.pointer p/\y=.pointer q/\(p=ZE\/q=ZE)/\b=(p.isNone&&q.isNone):=by
 unfold UY at h;split at h<;>cases h
 .obtain⟨k,_,rfl⟩:=mz hx;cases hy;exact⟨_,_,rfl,rfl,.inr rfl,rfl⟩
 .obtain⟨k,_,rfl⟩:=Tc hx;cases hy;exact⟨_,_,rfl,rfl,.inr rfl,rfl⟩
 .obtain⟨k,_,rfl⟩:=mz hy;cases hx;exact⟨_,_,rfl,rfl,.inl rfl,rfl⟩
 .obtain⟨k,_,rfl⟩:=Tc hy;cases hx;exact⟨_,_,rfl,rfl,.inl rfl,rfl⟩
 .cases hy;obtain⟨p,rfl⟩:=agP (.inr (.inr ⟨_,_,_,_,rfl⟩)) hx;exact⟨_,_,rfl,rfl,.inr rfl,rfl⟩
 .cases hx;cases hy;exact⟨_,_,rfl,rfl,.inl rfl,rfl⟩
def acN{e:Nat}(hu:P.underlying t=ZA (.pointer e))(p q:Option Addr)(h:p=ZE\/q=ZE)(w:World):(Op.equal t (.pointer p) (.pointer q)).run P w=.ok (p.isNone&&q.isNone) w:=by
 unfold Op.equal;have key:∀d x y,(Op.equalIn (d+1) t x y).run P w=_:=fun d x y=>by rw[Op.equalIn,ZI,run_underlying hu]
 rcases h with rfl|rfl
 .refine(key 9999 _ _).trans ?_;cases q<;>rfl
 .refine(key 9999 _ _).trans ?_;cases p<;>rfl
def aeZ(hT:∀t i,(t,i)∈cx.ty->TIok P t i){op:BinOp}(BM:op=.eql\/op=.neq){xt yt:Nat}(Ad:o.op=.binOp op xt x y yt){c d:C}(hx:vw.ev x=ZA (.one c))(hy:vw.ev y=ZA (.one d))(hi:am xt cx.ty=ZA i)(hk:i.kd=1){b:Bool}(hb:UY c d=ZA b)(h:(k {val:=.one (.bool (.tt (if op=.eql then b else !b)))} kw).holds sp G U I)(hg:Good sp cx.sm U kw):Sound P sp U G I base cx vw o k kw:=by
 refine⟨_,kw,h,hg,.refl _,OpOk.pure fun j ac w _ Av _ _ _=>⟨.bool (if op=.eql then b else !b),by simp[V.den,C.den,E.B],?_⟩⟩;obtain⟨e,hu⟩:=(hT _ _ (ab hi)).ptr hk;obtain⟨p,q,h1,h2,h3,rfl⟩:=agQ hb (Av x Or _ hx) (Av y Or _ hy);have h4:=acN hu p q h3 w;rcases BM with rfl|rfl<;>simp[execOp,Ad,h1,h2,eqGuard,binOp,h4,ZI]
def aeK:∀{a b:LL},(∀r∈a,av [ZA .u8] r=ZB)->(∀r∈b,av [ZA .u8] r=ZB)->ow a=ow b->a=b:=by
 have key:∀{a b:LL},(∀r∈a,av [ZA .u8] r=ZB)->(∀r∈b,av [ZA .u8] r=ZB)->(a.map fun r=>UInt8.ofNat (r.getD 0 0).toNat)=(b.map fun r=>UInt8.ofNat (r.getD 0 0).toNat)->a=b:=by
  intro a
  induction a with
  |nil=>intro b _ _ h;cases b with
    |nil=>rfl
    |cons=>simp at h
  |cons x a ih=>
    intro b ha hb h;cases b with
    |nil=>simp at h
    |cons y b=>
      simp only[List.map_cons,Be]at h;have hx:=ha x bR;have hy:=hb y bR;have h1:=gL hx;have h2:=gL hy;have h3:=ih (fun r hr=>ha r (cM _ hr)) (fun r hr=>hb r (cM _ hr)) h.2
      match x,y,h1,h2 with
      |[u],[v],_,_=>
        have hu:Ae .u8 u=ZB:=by simpa[av,Dn]using hx
        have hv:Ae .u8 v=ZB:=by simpa[av,Dn]using hy
        rw[bA]at hu hv;simp only[IntKind.min,IntKind.max,IntKind.signed,IntKind.bits]at hu hv;simp at hu hv;have h4:(UInt8.ofNat u.toNat).toNat=(UInt8.ofNat v.toNat).toNat:=by have:=h.1;simp only[List.getD_cons_zero]at this;rw[this]
        rw[UInt8.toNat_ofNat',UInt8.toNat_ofNat']at h4;have:u=v:=Fn;rw[this,h3]
 intro a b ha hb h;refine key ha hb ?_;have:=congrArg (fun s:ByteArray=>s.data.toList) h;simpa[ow]using this
def vu(hT:∀t i,(t,i)∈cx.ty->TIok P t i){op:BinOp}(BM:op=.eql\/op=.neq){xt yt:Nat}(Ad:o.op=.binOp op xt x y yt){a b:E}(hx:vw.ev x=ZA (.one (.str a)))(hy:vw.ev y=ZA (.one (.str b)))(hi:am xt cx.ty=ZA i)(hk:i.kd=2)(LD:a.lok kw.vk [ZA .u8]=ZB)(hlb:b.lok kw.vk [ZA .u8]=ZB)(h:(k {val:=.one (.bool (if op=.eql then .leq a b else ew (.leq a b)))} kw).holds sp G U I)(hg:Good sp cx.sm U kw):Sound P sp U G I base cx vw o k kw:=by
 have hu:=(hT _ _ (ab hi)).stg hk;have DQ:((ow (a.R U)).toList==(ow (b.R U)).toList)=(a.R U==b.R U):=by rw[aj,cL,cL,ByteArray.toList_eq,ByteArray.toList_eq];refine⟨fun h=>aeK (E.lok_ok hg.vk a LD) (E.lok_ok hg.vk b hlb) ?_,fun h=>by rw[h]⟩;have h2:(ow (a.R U)).data=(ow (b.R U)).data:=Array.toList_inj.1 h;cases h3:ow (a.R U);cases h4:ow (b.R U);rw[h3,h4]at h2;simp only at h2;rw[h2]
 refine⟨_,kw,h,hg,.refl _,OpOk.pure fun j ac w _ Av _ _ _=>⟨.bool (if op=.eql then(a.R U==b.R U)else !(a.R U==b.R U)),?_,?_⟩⟩
 .rcases BM with rfl|rfl<;>simp[V.den,C.den,di,E.B]
 .have h1:ac.eval x=.string (ow (a.R U)):=(ZN (Av x Or _ hx)).symm;have h2:ac.eval y=.string (ow (b.R U)):=(ZN (Av y Or _ hy)).symm;rcases BM with rfl|rfl<;>simp[execOp,Ad,h1,h2,eqGuard,binOp,Op.stringOp,DQ,ZI]
end
def mK(kd:IntKind)(l:E):Nat->Nat->List C
 |_,0=>[]
 |i,n+1=>.int kd (.get l (.p i) 0)::mK kd l (i+1) n
section
variable {P:Program}{sp:Spec}{U:Env}{G:Env->E->Prop}{I:Nat->List Dt->Prop}{base:Nat}{cx:Cx}{vw:Vw}{o:Oper}{k:Eff->Kw->Tr}
def acB(hT:∀t i,(t,i)∈cx.ty->TIok P t i)(Ad:o.op=.index t x y){cs:List C}(hx:vw.ev x=ZA (.agg cs))(hy:vw.ev y=ZA (.one (.int k0 e)))(hi:am t cx.ty=ZA i)
   (ha:i.arr=ZA (n,et))  (BE:am et cx.ty=ZA ie) (A0:cs.length=n*ie.size) (h:(AL (Kk e n) (fun ok kw=>if ok then(match zp e n ie.size cs 0 ie.size with
    |some ds=>if ie.agg then k {val:=.agg ds} kw else(match ds with
      |[d]=>k {val:=.one d} kw
      |_=>.stuck 195)
    |none=>.stuck 196)else .panic) kw).holds sp G U I) (hg:Good sp cx.sm U kw):Sound P sp U G I base cx vw o k kw:=by
 obtain⟨Ch,g1,q1,_,l1⟩:=aS _ _ _ h hg;rw[SQ]at g1;split at g1
 .rename_i hr;rw[ne,aB,aB]at hr;have hu:=(hT _ _ (ab hi)).arr n et ha;have ht:=hT _ _ (ab BE);split at g1
  .rename_i ds Bp;have key:∀{j:J} {a:Act} (w:World),(∀x∈o.op.operands.toList,∀v,vw.ev x=ZA v->v.den U j=ZA (a.eval x))->∃vs:List Value,Af U j ds=ZA ((vs.drop ((e.I U).toNat*ie.size+0)).take ie.size)/\ds.length=ie.size/\(execOp a.eval o).run P w=((part et vs.toArray ((e.I U).toNat*ie.size)).run P w).andThen fun v w=>.ok (.value v) w:=by
    intro j a w Av;have hd:=Av x Or _ hx;simp only[V.den,Ay]at hd;obtain⟨vs,EN,hp⟩:=hd;have hq:=dh (Av y Or _ hy);obtain⟨e1,e2⟩:=uz EN hr.1 hr.2 ie.size 0 ds Bp;refine⟨vs,e2,e1,?_⟩;simp[execOp,Ad,<-hp,hq,Instr.index,run_underlying hu,asIntOf,hr,ht.size,ZI]
   split at g1
   .rename_i Bu;refine⟨_,Ch,g1,q1,l1,OpOk.pure fun j a w _ Av _ _ _=> ?_⟩;obtain⟨vs,h1,h2,h3⟩:=key (j:=j) (a:=a) w Av;refine⟨.agg ((vs.drop ((e.I U).toNat*ie.size+0)).take ie.size).toArray,by simp only[V.den,h1,YU],?_⟩;rw[h3];have h4:vs.toArray.extract ((e.I U).toNat*ie.size) ((e.I U).toNat*ie.size+ie.size)=((vs.drop ((e.I U).toNat*ie.size+0)).take ie.size).toArray:=by
     simp[List.extract_eq_take_drop]
    simp only[part,ZI,ht.agg,Bu,Result.andThen_ok,if_true,ht.size,h4,Sem.run_pure]
   .rename_i Bu;split at g1
    .rename_i d;refine⟨_,Ch,g1,q1,l1,OpOk.pure fun j a w _ Av _ _ _=> ?_⟩;obtain⟨vs,h1,h2,h3⟩:=key (j:=j) (a:=a) w Av;simp only[Af]at h1;cases hdd:d.den U j with
     |none=>rw[hdd]at h1;cases h1
     |some v=>
       rw[hdd,bv]at h1;refine⟨v,hdd,?_⟩;have hz:ie.size=1:=h2.symm;have h4:vs[(e.I U).toNat*ie.size]? =ZA v:=by have:=congrArg (fun l=>l[0]?) h1;simp only[cy,List.getElem?_take,hz,List.getElem?_drop,ZS]at this;rw[if_pos Fn]at this;rw[hz];exact this.symm
       have h5:vs.toArray[(e.I U).toNat*ie.size]? =ZA v:=by simpa using h4
       have DF:ie.agg=ZC:=YC;rw[h3];simp only[part,ZI,ht.agg,DF,Result.andThen_ok,h5];simp
    .exact g1.elim
  .exact g1.elim
 .exact g1.elim
def opX(cx:Cx)(vw:Vw)(op:Op)(kw:Kw)(k:Eff->Kw->Tr):Option Tr:=match op with
 |.binOp op xt x y _=>match vw.ev x,vw.ev y with
   |some (.one c),ZA (.one d)=>match am xt cx.ty with
     |some i=>
       if ZJ i.kd 1 then(match UY c d,op with
        |some b,.eql=>ZA (k {val:=.one (.bool (.tt b))} kw)
        |some b,.neq=>ZA (k {val:=.one (.bool (.tt (!b)))} kw)
        |_,_=>ZE)
       else if ZJ i.kd 2 then(match c,d with
        |.str a,.str b=>if a.lok kw.vk [ZA .u8]&&b.lok kw.vk [ZA .u8]then(match op with
          |.eql=>ZA (k {val:=.one (.bool (.leq a b))} kw)
          |.neq=>ZA (k {val:=.one (.bool (ew (.leq a b)))} kw)
          |_=>ZE)else ZE
        |_,_=>ZE)
       else ZE
     |none=>ZE
   |_,_=>ZE
 |.indexAddr t x y=>match vw.ev x,vw.ev y,am t cx.ty with
   |some (.one (.wn id sz lo hi mx)),ZA (.one (.int _ e)),ZA i=>match i.sle with
     |some et=>match am et cx.ty,vw.sw id with
       |some ie,ZA r=>if ZJ r.ks.length ie.size&&ZJ sz ie.size then
        ZA (AL (Mn r.l lo hi mx) (fun ok kw=>if ok then AL (GF e (jc (jb r.l hi) lo)) (fun b kw=>if b then k {val:=.one (.ep id ie.size (JE lo e) 0),rr:=[id]} kw else .panic) kw else .stuck 185) kw)
         else ZE
       |_,_=>ZE
     |none=>ZE
   |some (.one (.fp b off)),ZA (.one (.int _ e)),ZA i=>match i.arr with
     |some (n,et)=>match am et cx.ty with
       |some ie=>ZA (tS e n (fun m kw=>k {val:=.one (.fp b (off+m*ie.size))} kw) n kw)
       |none=>ZE
     |none=>ZE
   |_,_,_=>ZE
 |.index t x y=>match vw.ev x,vw.ev y,am t cx.ty with
   |some (.agg cs),ZA (.one (.int _ e)),ZA i=>if aoP cx &&!e.isLit then(match i.arr with
     |some (n,et)=>match am et cx.ty with
       |some ie=>if ZJ cs.length (n*ie.size)then ZA (AL (Kk e n) (fun ok kw=>if ok then(match zp e n ie.size cs 0 ie.size with
        |some ds=>if ie.agg then k {val:=.agg ds} kw else(match ds with
          |[d]=>k {val:=.one d} kw
          |_=>.stuck 195)
        |none=>.stuck 196)else .panic) kw)else ZE
       |none=>ZE
     |none=>ZE)else ZE
   |_,_,_=>ZE
 |_=>ZE
def asc(hT:∀t i,(t,i)∈cx.ty->TIok P t i)(ht:opX cx vw o.op kw k=ZA tr)(h:tr.holds sp G U I)(hg:Good sp cx.sm U kw):Sound P sp U G I base cx vw o k kw:=by
 cases Ad:o.op<;>rw[Ad]at ht<;>simp only[opX]at ht
 case binOp op xt x y yt=>
  split at ht
  .rename_i c d hx hy;split at ht
   .rename_i i hi;split at ht
    .rename_i hk;split at ht
     next b hb=>cases ht;exact aeZ hT (.inl rfl) Ad hx hy hi (Ak hk) hb h hg
     next b hb=>cases ht;exact aeZ hT (.inr rfl) Ad hx hy hi (Ak hk) hb h hg
     .exact Xr
    .split at ht
     .rename_i hk;split at ht
      .rename_i a b;split at ht
       .rename_i hl;rw[ne]at hl;split at ht
        .cases ht;exact vu hT (.inl rfl) Ad hx hy hi (Ak hk) hl.1 hl.2 h hg
        .cases ht;exact vu hT (.inr rfl) Ad hx hy hi (Ak hk) hl.1 hl.2 h hg
        .exact Xr
       .exact Xr
      .exact Xr
     .exact Xr
   .exact Xr
  .exact Xr
 case indexAddr t x y=>
  split at ht
  .rename_i id sz lo Bq mx k0 e i hx hy hi;split at ht
   .rename_i et ha;split at ht
    .rename_i ie r BE hr;split at ht
     next CH=>rw[ne]at CH;cases ht;exact acA hT Ad hx hy hi ha BE hr (Ak CH.1) (Ak CH.2) h hg
     .exact Xr
    .exact Xr
   .exact Xr
  .rename_i b off k0 e i hx hy hi;split at ht
   .rename_i n et ha;split at ht
    next ie BE=>cases ht;exact iI hT Ad hx hy hi ha BE (c':=fun m=>.fp b (off+m*ie.size)) (fun m j v hv=>abv hv) h hg
    .exact Xr
   .exact Xr
  .exact Xr
 case index t x y=>
  split at ht
  .rename_i cs k0 e i hx hy hi;split at ht
   .split at ht
    .rename_i n et ha;split at ht
     .rename_i ie BE;split at ht
      next hl=>cases ht;exact acB hT Ad hx hy hi ha BE (Ak hl) h hg
      .exact Xr
     .exact Xr
    .exact Xr
   .exact Xr
  .exact Xr
 all_goals cases ht
end
def RdRow.kept(h:RdRow w BC s xs)(hb:∀k,s.blk ZC=ZA k->w'.heap[k]? =w.heap[k]?):RdRow w' BC s xs:=by
 obtain⟨h1,h2,h3,h4,h5⟩:=h;refine⟨h1,h2,h3,h4,fun a ha i u hu=> ?_⟩;have hc:s.c≠0:=fun hc=>by have As:=(cZ.1 hu).1;have:s.n=0:=Fn;rw[h1,this]at As;omega
 have:=h5 a ha i u hu;have DT:(a.add i).block=a.block:=YI;have he:w'.heap[(a.add i).block]? =w.heap[(a.add i).block]? :=by rw[DT];exact hb a.block (qG hc (by simp[SV.v,ha,Value.ownBlock]))
 rw[World.cell?_of_block he];exact this
def mM:∀{L:LL} {ins:List SV},ins.length=L.length->∀(L':LL) (K1:List SV),gT L ins++gT L' K1=gT (L++L') (ins++K1)
 |[],[],_,L',K1=>rfl
 |r::L,x::ins,h,L',K1=>by simp only[gT,List.cons_append,List.append_assoc,mM (L:=L) (ins:=ins) Xx L' K1]
 |[],_::_,h,_,_=>by cases h
 |_::_,[],h,_,_=>by cases h
def sf:∀{L:LL} {ins:List SV},∀u∈gT L ins,u.oneCell'=ZB
 |r::L,x::ins,u,hu=>by
   simp only[gT,List.mem_append]at hu;rcases hu with hu|hu
   .simp only[aim,YT,List.not_mem_nil,or_false]at hu;rcases hu with rfl|rfl|rfl<;>rfl
   .exact sf u hu
 |[],_,u,hu=>by cases hu
 |_::_,[],u,hu=>by cases hu
def zU:∀{L:LL},(∀r∈L,av [ZA .u64] r=ZB)->∃xs:List Int,L=xs.map fun x=>[x]
 |[],_=>⟨[],rfl⟩
 |r::L,h=>by
   obtain⟨xs,rfl⟩:=zU (fun q hq=>h q (cM _ hq));have h1:=h r bR
   match r,h1 with
   |[x],_=>exact⟨x::xs,rfl⟩
   |x::y::l,h1=>simp[av]at h1
def evA(l:E):E:=.cons (qV l (.p 0) 0) (.cons (qV l (.p 1) 0) (.cons (qV l (.p 2) 0) (.cons (qV l (.p 3) 0) (.cons (qV l (.p 4) 0) .nil))))
def Mm(vk:List VK)(e1 e2 l:E):E:=.cons e1 (.cons e2 (.cons (Iq vk l) (evA l)))
def avK{e1 e2:E}(hl:(l.R U).length<=maxLen):(Mm vk e1 e2 l).L U=[e1.I U,e2.I U,((l.R U).length:Int),gt (l.R U) 0 0,gt (l.R U) 1 0,gt (l.R U) 2 0,gt (l.R U) 3 0,gt (l.R U) 4 0]:=by simp only[Mm,evA,E.L,yN,E.I];rw[yS (kw:=⟨[],[],vk,0⟩) hl]
def aqU{L:LL}(h:∀r∈L,av [ZA .u64] r=ZB)(h5:L.length<=5)(a b:Int):ain [a,b,(L.length:Int),gt L 0 0,gt L 1 0,gt L 2 0,gt L 3 0,gt L 4 0]=flat [ZA .u64] L/\([a,b,(L.length:Int),gt L 0 0,gt L 1 0,gt L 2 0,gt L 3 0,gt L 4 0].drop 3).drop L.length=ZM (5-L.length) 0:=by
 obtain⟨xs,rfl⟩:=zU h
 match xs,h5 with
 |[],_=>exact⟨rfl,rfl⟩
 |[x],_=>exact⟨rfl,rfl⟩
 |[x,y],_=>exact⟨rfl,rfl⟩
 |[x,y,z],_=>exact⟨rfl,rfl⟩
 |[x,y,z,u],_=>exact⟨rfl,rfl⟩
 |[x,y,z,u,v],_=>exact⟨rfl,rfl⟩
 |_::_::_::_::_::_::_,h=>simp at h
def Vw.evw(vw:Vw)(id:Nat):Option RowOb:=match vw.rw id with
 |some r=>if r.kd.isEv then ZA r else ZE
 |none=>ZE
def Vw.evw_some{vw:Vw}{id:Nat}(h:vw.evw id=ZA r):vw.rw id=ZA r/\r.kd=.ev:=by
 unfold Vw.evw at h;split at h
 .rename_i q hq;split at h
  next hk=>cases h;exact⟨hq,RK.isEv_eq hk⟩
  .exact Xo
 .exact Xo
section
variable {P:Program}{sp:Spec}{U:Env}{G:Env->E->Prop}{I:Nat->List Dt->Prop}{base:Nat}{cx:Cx}{vw:Vw}{o:Oper}{k:Eff->Kw->Tr}
def RrOk.ev{rr:List Nat}(h:RrOk U base j w vw.rw rr)(id:Nat)(Ik:id∈rr)(r:RowOb)(hr:vw.evw id=ZA r):∃s,j.s id=ZA s/\EvOk U base w s r/\Zin j s/\∀p∈s.z,w.heap[p.1]? =ZA p.2:=by obtain⟨h1,h2⟩:=Vw.evw_some hr;obtain⟨s,h3,h4,h5⟩:=h id Ik r h1;exact⟨s,h3,h4.2.2 h2,h5.1,h5.2.1⟩
def we(hT:∀t i,(t,i)∈cx.ty->TIok P t i)(Ad:o.op=.buildSlice t n ps)(Gy:K8 vw.ev ps.toList=ZA A5)(hi:am t cx.ty=ZA i)(ha:i.sle=ZA et)(BE:am et cx.ty=ZA ie)
  {cs:List C} (En:qY (fun m=>ZA (m*ie.size,ie.size)) ((ZM n ie.zero).flatten) A5=ZA cs) (Ed:n*ie.size<=16777216) (Eo:0<n*ie.size)    (Av:∀x∈o.op.operands.toList,∀v,vw.ev x=ZA v->v.den U j=ZA (a.eval x)):
  ∃cells:Array Value,Af U j cs=ZA cells.toList/\(execOp a.eval o).run P w=.ok (.value (.slice (ZA ⟨w.heap.size,0,ZE⟩) n n)) (w.alloc (.cells cells et)):=by
 obtain⟨h1,h2⟩:=Wp (a:=a) (j:=j) Gy (fun x hx=>Av x (by
  simp only[Ad,Op.operands];simpa using hx))
 have h3:(ps.map fun p=>(p.1,a.eval p.2)).toList=ps.toList.map fun p=>(p.1,a.eval p.2):=Array.toList_map ..;have hx:execOp a.eval o=(do let v <-Instr.buildSlice t n (ps.map fun p=>(p.1,a.eval p.2));pure (.value v)):=by simp only[execOp,Ad]
 have hu:=(hT _ _ (ab hi)).sle et ha;have Nj:=hT _ _ (ab BE);have BT:=Nj.size;obtain⟨CL,z,C4,CC,_,hz,Ib,I7⟩:=Nj.info;have Jt:z.cells.size=ie.size:=by simpa using Ib
 have zer:Af U j ((ZM n ie.zero).flatten)=ZA (madeCells z.cells (n*ie.size)).toList:=by
  rw[<-Jt,oH];have:∀n,Af U j ((ZM n ie.zero).flatten)=ZA ((ZM n z.cells.toList).flatten):=by
   intro n
   induction n with
   |zero=>rfl
   |succ n ih=>simp only[List.replicate_succ,List.flatten_cons];exact gr (I7 U j) ih
  exact this n
 obtain⟨cells,h4,h5⟩:=qs (j:=j) A5 _ cs _ (madeCells z.cells (n*ie.size)) En zer h1 h2;refine⟨cells,h5,?_⟩;rw[hx];have K2:¬(16777216<n*ie.size):=Fn;have Qb:¬n*ie.size=0:=Fn;simp only[madeCells]at h4;simp[Instr.buildSlice,ZI,run_underlying hu,BT,h3,K2,Qb,zeroValue,typeInfo,C4,hz,h4,newRow]
def ae5(hT:∀t i,(t,i)∈cx.ty->TIok P t i)(Ad:o.op=.buildSlice t 1 ps)(Gy:K8 vw.ev ps.toList=ZA A5)(hi:am t cx.ty=ZA i)(ha:i.sle=ZA et)(BE:am et cx.ty=ZA ie){e1 e2:E}{id:Nat}(En:qY (fun m=>ZA (m*ie.size,ie.size)) ((ZM 1 ie.zero).flatten) A5=ZA [.int .i64 e1,.sl id,.int .u64 e2])(h3:ie.size=3)(hr:vw.sw id=ZA r)(AK:r.own=ZB)(CH:r.ks=[ZA .u64])(hrok:(Mm kw.vk e1 e2 r.l).rok kw.vk Do=ZB)(h:(AL (Bt (.p 5) (dG r.l)) (fun b An=>if b then .stuck 220 else k {val:=.one (.sl vw.nid),rr:=[id],re:=.frz id {r with own:=ZC} ⟨Do,et,.lq .ln (Mm kw.vk e1 e2 r.l),ZB,.ev⟩} An) kw).holds sp G U I)(hg:Good sp cx.sm U kw):Sound P sp U G I base cx vw o k kw:=by
 obtain⟨Ch,h1,g1,_,l1⟩:=aS _ _ _ h hg;rw[dq,dP]at h1;split at h1
 .exact h1.elim
 rename_i h5;have h5:(r.l.R U).length<=5:=by have:¬(5:Int)<((r.l.R U).length:Int):=Ab (Bool.eq_false_iff.2 h5);omega
 refine⟨_,Ch,h1,g1,l1,fun j a w hb Av By Cb BS Ev K Q hK=> ?_⟩;obtain⟨cells,hd,Cv⟩:=we (U:=U) (w:=w) hT Ad Gy hi ha BE En Fn Fn Av;obtain⟨s,hs,Al⟩:=BS.sl id (by simp) r hr;have AY:∀q∈r.l.R U,av [ZA .u64] q=ZB:=by have:=Al.rows.row;rw[CH]at this;exact this
 have hL:=avK (U:=U) (vk:=kw.vk) (e1:=e1) (e2:=e2) (l:=r.l) Al.rows.len;obtain⟨f1,f2⟩:=aqU AY h5 (e1.I U) (e2.I U);have AV:av Do ((Mm kw.vk e1 e2 r.l).L U)=ZB:=E.rok_ok hg.vk hrok;have hc:cells.toList=gT [(Mm kw.vk e1 e2 r.l).L U] [s]:=by simp only[Af,C.den,hs,YU,bv]at hd;rw[<-hd,hL];rfl
 have KE:=Al.own AK;obtain⟨z,Ex,LA,hz3⟩:∃z:List (Nat×Obj),z.length<=1/\(∀p∈z,w.heap[p.1]? =ZA p.2/\Cg p.2=ZB/\s.v.ownBlock=ZA p.1)/\∀k,s.v.ownBlock=ZA k->∃o,(k,o)∈z:=by
  rcases KE.2 with⟨hv,_⟩|⟨g,Hp,cur,hv,hbg,hh,_⟩
  .exact⟨[],by simp,fun p hp=>Yn,fun k hk=>by rw[hv]at hk;cases hk⟩
  .refine⟨[(g,.cells cur r.ty (0,0))],by simp,fun p hp=> ?_,fun k hk=> ?_⟩
   .rw[dv.1 hp];exact⟨hh,rfl,by rw[hv];rfl⟩
   .rw[hv]at hk;cases hk;exact⟨_,dv.2 rfl⟩
 have hei:EiOk z ((Mm kw.vk e1 e2 r.l).L U) s:=by rw[hL];refine⟨by rw[Al.n];rfl,by rw[Al.n];exact h5,by rw[Al.n];exact f2,fun w' hw=> ?_,fun k hk=>hz3 k (aA hk)⟩;have By:=Al.rd;rw[CH]at By;rw[f1];refine RdRow.kept By (fun k hk=> ?_);obtain⟨o,ho⟩:=hz3 k (aA hk);rw[hw _ ho,(LA _ ho).1]
 have hx:Ext w (w.alloc (.cells cells et)):=Ext.of_grown (World.grownBy_alloc w _ ZE);have own:=World.ownsRow_lit (base:=w.heap.size) (e:=et) (size:=3) w cells 1 (ZK _) (by simp[maxLen]) (by rw[<-Array.length_toList,hc];rfl);refine dT (w':=w.alloc (.cells cells et)) (v:=(⟨ZA ⟨w.heap.size,0,ZE⟩,1,1,z⟩:SV).v) Cv (hK _ _ _ ?_ ⟨hx,s,⟨ZA ⟨w.heap.size,0,ZE⟩,1,1,z⟩,hs,SlOk.row ⟨Al.n,Al.rows,Al.pos,fun k hk=>Al.lt k (by rw[AK];exact bO hk),fun ho=>(by cases ho),Al.rd⟩ (Vw.sw_some hr).2,?_,fun k hk=>(by cases hk;exact ZK _),Ex,LA,rfl,(fun e=>by rw[show r.kd=.sl from(Vw.sw_some hr).2]at e;cases e),(fun e=>by cases e)⟩)
 .have e1:((j.putS vw.nid ⟨ZA ⟨w.heap.size,0,ZE⟩,1,1,z⟩).addz z).s=(j.putS vw.nid ⟨ZA ⟨w.heap.size,0,ZE⟩,1,1,z⟩).s:=by cases z<;>rfl
  simp only[V.den,C.den];rw[e1];simp[J.putS]
 .rw[hc]at own;refine EvOk.row ⟨rfl,?_,⟨fun q hq=> ?_,by simp[E.R,maxLen]⟩,fun k hk=> ?_,fun _ p hp=> ?_,[s],?_,fun _=> ?_,?_,fun i row x Bq F9=> ?_⟩ rfl
  .simp[E.R]
  .simp only[E.R,ZQ,dv]at hq;rw[hq];exact AV
  .have:=(rH (s:=⟨ZA ⟨w.heap.size,0,ZE⟩,1,1,z⟩) own k (aA hk)).1;exact this
  .exact(rH KE _ (LA p hp).2.2).2
  .simp[E.R]
  .simp only[E.R,ZQ];exact own.mono hb
  .simp only[E.R,ZQ];exact pU (s:=⟨ZA ⟨w.heap.size,0,ZE⟩,1,1,z⟩) own
  .cases i with
   |zero=>simp only[E.R,ZQ,cy,bv]at Bq F9;rw[<-Bq,<-F9];exact hei
   |succ i=>simp at F9
def ae6(hT:∀t i,(t,i)∈cx.ty->TIok P t i)(Ad:o.op=.call c)(hc:c.callee=.builtin .len){id:Nat}(hl:Ey vw.ev c.args.toList=ZA [.one (.sl id)])(C5:c.argTypes.toList=[t])(hi:am t cx.ty=ZA i)(Gp:i.sle.isSome=ZB)(hr:vw.evw id=ZA r)(h:(k {val:=.one (.int .i64 (Iq kw.vk r.l)),rr:=[id]} kw).holds sp G U I)(hg:Good sp cx.sm U kw):Sound P sp U G I base cx vw o k kw:=by
 refine⟨_,kw,h,hg,.refl _,OpOk.pure fun j a w _ Av _ BS _=> ?_⟩;obtain⟨s,hs,Al,_⟩:=BS.ev id (by simp) r hr;obtain⟨h1,h2⟩:=jg (j:=j) (a:=a) hl (fun x hx=>Av x Xp);have h3:c.args.map a.eval = #[s.v]:=by
  have:c.args.toList.map a.eval=[s.v]:=by
   match hm:c.args.toList.map a.eval,h2 with
   |[u],_=>rw[hm]at h1;rw[vC hs (h1 0 _ u rfl rfl)]
  rw[<-Array.toArray_toList (xs:=c.args.map a.eval),Array.toList_map,this]
 obtain⟨et,Mf⟩:=Option.isSome_iff_exists.1 Gp;have hu:=(hT _ _ (ab hi)).sle et Mf;have Dx:c.argTypes = #[t]:=Xu;have HQ:(r.l.R U).length<=maxLen:=Al.rows.len;refine⟨.int .i64 (s.n:Int),by rw[Al.n];simp[V.den,C.den,yS HQ],?_⟩;simp[execOp,Ad,resolve,hc,h3,Dx,ZI,invoke,builtin,Builtin.len_,run_underlying hu,SV.v,goInt]
def vt(hT:∀t i,(t,i)∈cx.ty->TIok P t i)(Ad:o.op=.call c)(hc:c.callee=.builtin .append){old id:Nat}(hl:Ey vw.ev c.args.toList=ZA [.one (.sl old),.one (.sl id)])(C5:c.argTypes.toList=[t,t])(hi:am t cx.ty=ZA i)(ha:i.sle=ZA et)(BE:am et cx.ty=ZA ie)(hr:vw.evw id=ZA r)(Rk:vw.evw old=ZA q)(h3:ie.size=3)(hby:ie.bytes<=65536)(Gr:r.own=ZB)(FY:q.own=ZB)(hqt:q.ty=et)(h:(AL (ib (Bt (dG q.l) (.p EO)) (Bt (dG r.l) (.p EO))) (fun b kw=>if b then k {val:=.one (.sl vw.nid),rr:=[old,id],re:=.app old ⟨Do,et,DU q.l r.l,ZB,.ev⟩} kw else .panic) kw).holds sp G U I)(hg:Good sp cx.sm U kw):Sound P sp U G I base cx vw o k kw:=by
 obtain⟨Ch,h1,g1,_,l1⟩:=aS _ _ _ h hg;rw[dQ,dq,dq,dP,dP]at h1;split at h1
 .rename_i Ed;rw[ne]at Ed;have I4:((q.l.R U).length:Int)<1073741824:=Ah Ed.1;have DV:((r.l.R U).length:Int)<1073741824:=Ah Ed.2;refine⟨_,Ch,h1,g1,l1,fun j a w hb Av By Cb BS Ev K Q hK=> ?_⟩;obtain⟨s,hs,Al,Jt⟩:=BS.ev id (by simp) r hr;obtain⟨p,hp,GW,hzp⟩:=BS.ev old (by simp) q Rk;obtain⟨u1,u2,B6,Kf,IN⟩:=Rh (j:=j) (a:=a) hl (fun x hx=>Av x Xp);have e1:=vC hp Kf;have e2:=vC hs IN;subst e1 e2;have hu:=(hT _ _ (ab hi)).sle et ha;obtain⟨CL,z,C4,CC,EJ,hz,Ib,I7⟩:=(hT _ _ (ab BE)).info;have Dx:c.argTypes = #[t,t]:=Xu;have hn:=Al.n;have hpn:=GW.n;obtain⟨ip,i1,i2,i3,i4⟩:=GW.at';obtain⟨US,j1,j2,j3,j4⟩:=Al.at';have AK:=i2 FY;rw[hqt,<-h3,<-CC]at AK;have DE:=j3;rw[<-h3,<-CC]at DE;obtain⟨s',w',h2,k3,h4,h5,h6,h7⟩:=ek (P:=P) (base:=base) (ty:=o.type) hu C4 hz YD Fn AK DE sf Yg
   (by
    have:(p.n+s.n)*CL.bytes<=2147483648*65536:=Nat.mul_le_mul Fn Fn;omega) hb
  rw[mM i1,CC,h3,<-k3]at h4;have hR:(DU q.l r.l).R U=q.l.R U++r.l.R U:=ane U _ _;have KE:=j2 Gr;refine dT (w':=w') (v:=s'.v) ?_ (hK _ (j.putS vw.nid {s' with z:=p.z++s.z}) _ ?_ ⟨p,{s' with z:=p.z++s.z},hp,h5,EvOk.row ⟨rfl,?_,⟨fun x hx=> ?_,?_⟩,fun k hk=> ?_,fun _ x hx=> ?_,ip++US,?_,fun _=> ?_,?_,fun m row x hm hx=> ?_⟩ rfl,h6,fun x hx=> ?_,rfl,fun e=>by cases e⟩)
  .simp only[execOp,Ad,resolve,hc,B6,Dx,ZI,Sem.run_pure,Result.andThen_ok,invoke,builtin,h2]
  .simp only[V.den,C.den,J.putS,if_true,YU];rfl
  .show s'.n=((DU q.l r.l).R U).length;rw[hR,eg];omega
  .have hx:x∈(DU q.l r.l).R U:=hx;rw[hR,List.mem_append]at hx;rcases hx with hx|hx
   .have:=GW.rows.row x hx;rw[GW.ks]at this;exact this
   .have:=Al.rows.row x hx;rw[Al.ks]at this;exact this
  .show((DU q.l r.l).R U).length<=maxLen;rw[hR,eg];simp only[maxLen];omega
  .exact(rH (s:=s') h4 k (aA hk)).1
  .rcases List.mem_append.1 hx with hx|hx
   .exact GW.zb FY x hx
   .exact Al.zb Gr x hx
  .show(ip++US).length=((DU q.l r.l).R U).length;rw[hR,eg,eg,i1,j1]
  .show w'.ownsRow base et 3 s'.v s'.n (gT ((DU q.l r.l).R U) (ip++US));rw[hR];exact h4
  .show RdRow w' 3 _ (gT ((DU q.l r.l).R U) (ip++US));rw[hR];exact pU h4
  .have hm:((DU q.l r.l).R U)[m]? =ZA row:=hm;rw[hR]at hm;rcases bt m (q.l.R U).length with As|DH
   .rw[A9 As]at hm;rw[A9 Fn]at hx;exact(i4 m row x hm hx).mono (fun y hy=>List.mem_append_left _ hy)
   .rw[Bl DH]at hm;rw[Bl Fn,i1]at hx;exact(j4 _ row x hm hx).mono (fun y hy=>YX _ hy)
  .rcases List.mem_append.1 hx with hx|hx
   .exact hzp.1 x hx
   .exact Jt.1 x hx
 .exact h1.elim
def KP(kd:IntKind):E->List C->Option E
 |l,[]=>ZA l
 |l,.int k e::cs=>if bE k kd then KP kd (.lq l (.cons e .nil)) cs else ZE
 |_,_=>ZE
def aiW{kd:IntKind}{j:J}:∀{cs:List C} {l l':E} {vs:List Value},KP kd l cs=ZA l'->Af U j cs=ZA vs->(l'.R U).length=(l.R U).length+cs.length/\flat [ZA kd] (l'.R U)=flat [ZA kd] (l.R U)++vs
 |[],l,l',vs,h,hd=>by cases h;cases hd;simp
 |.int k e::cs,l,l',vs,h,hd=>by
   simp only[KP]at h;split at h
   .rename_i hk;simp only[Af,C.den]at hd;cases hl:Af U j cs with
    |none=>rw[hl]at hd;cases hd
    |some us=>rw[hl]at hd;cases hd;obtain⟨h1,h2⟩:=aiW h hl;refine⟨by rw[h1];simp[E.R];omega,?_⟩;rw[h2];simp only[E.R,E.L,qq,List.append_assoc];congr 1;rw[ar hk];rfl
   .exact Xo
def JA(n:Nat)(lo hi:E):E:=ib (ew (Bt lo (.p 0))) (ib (ew (Bt hi lo)) (ew (Bt (.p n) hi)))
def anb(h:(JA n lo hi).B U=ZB):0<=lo.I U/\lo.I U<=hi.I U/\hi.I U<=(n:Int):=by unfold JA at h;rw[dQ,dQ,ne,ne,di,di,di,dq,dq,dq,ZP,ZP,ZP]at h;obtain⟨h1,h2,h3⟩:=h;replace h1:¬lo.I U<0:=Ab h1;replace h2:=Ab h2;replace h3:¬(n:Int)<hi.I U:=Ab h3;exact⟨by omega,by omega,by omega⟩
def qU{l:Nat}{low high:Option Value}(hl:(low=ZE/\l=0)\/∃kd:IntKind,low=ZA (.int kd (l:Int)))(hh:(high=ZE/\h=n)\/∃kd:IntKind,high=ZA (.int kd (h:Int)))(h1:l<=h)(h2:h<=n):(Instr.sliceBounds ZC n n low high ZE).run P w=.ok (l,h,n) w:=by
 have sb:∀(kd:IntKind) (m y:Nat) code,m<=y->(Instr.sliceBound (.int kd (m:Int)) y code).run P w=.ok m w:=fun kd m y code hmy=>by have h5:(m:Int)<=(y:Int):=Fn;simp[Instr.sliceBound,asIntOf,ZI,hmy]
 rcases hl with⟨rfl,rfl⟩|⟨kd,rfl⟩<;>rcases hh with⟨rfl,rfl⟩|⟨kd',rfl⟩
 .simp[Instr.sliceBounds,ZI]
 .simp[Instr.sliceBounds,ZI,sb kd' h n _ h2]
 .simp[Instr.sliceBounds,ZI,sb kd l _ _ h1]
 .simp[Instr.sliceBounds,ZI,sb kd l h _ h1,sb kd' h n _ h2]
def acC(hT:∀t i,(t,i)∈cx.ty->TIok P t i){lo Bq:Option Operand}(Ad:o.op=.slice t x lo Bq ZE)(hx:vw.ev x=ZA (.one (.ptr b off)))(hi:am t cx.ty=ZA i)(ha:i.arr=ZA (n,et))(BE:am et cx.ty=ZA ie){a c:E}(Nq:J7 vw lo (.p 0)=ZA a)(Oc:J7 vw Bq (.p n)=ZA c)(h:(AL (JA n a c) (fun ok kw=>if ok then k {val:=.one (.aw b off n ie.size a c (.p n))} kw else .panic) kw).holds sp G U I)(hg:Good sp cx.sm U kw):Sound P sp U G I base cx vw o k kw:=by
 obtain⟨Ch,h1,g1,_,l1⟩:=aS _ _ _ h hg;split at h1
 .rename_i hb;obtain⟨b1,b2,b3⟩:=anb hb;refine⟨_,Ch,h1,g1,l1,OpOk.pure fun j ac w _ Av _ _ _=> ?_⟩;obtain⟨kk,hk,hv⟩:=mz (Av x Or _ hx);have hu:=(hT _ _ (ab hi)).arr _ _ ha;have BT:=(hT _ _ (ab BE)).size w;have Gz:(lo.map ac.eval=ZE/\(a.I U).toNat=0)\/∃kd:IntKind,lo.map ac.eval=ZA (.int kd (((a.I U).toNat:Nat):Int)):=by
   rcases ahW Nq with⟨rfl,rfl⟩|⟨y,kd,rfl,hy⟩
   .exact .inl ⟨rfl,rfl⟩
   .refine .inr ⟨kd,?_⟩;rw[YU,dh (Av y Or _ hy),Int.toNat_of_nonneg b1]
  have hh1:(Bq.map ac.eval=ZE/\(c.I U).toNat=n)\/∃kd:IntKind,Bq.map ac.eval=ZA (.int kd (((c.I U).toNat:Nat):Int)):=by
   rcases ahW Oc with⟨rfl,rfl⟩|⟨y,kd,rfl,hy⟩
   .exact .inl ⟨rfl,by simp[E.I]⟩
   .refine .inr ⟨kd,?_⟩;rw[YU,dh (Av y Or _ hy),Int.toNat_of_nonneg Fn]
  refine⟨_,by simp only[V.den,C.den,hk,YU,E.I];rfl,?_⟩;have b1':=qU (P:=P) (w:=w) Gz hh1 Fn Fn;have Cv:(Instr.sliceAt t (.pointer (ZA ⟨kk,off,ZE⟩)) (lo.map ac.eval) (Bq.map ac.eval) ZE).run P w=.ok ((⟨ZA ⟨kk,off,ZE⟩,n,n,[]⟩:SV).cut ie.size (a.I U).toNat (c.I U).toNat n).v w:=by simp only[Instr.sliceAt,ZI,run_underlying hu,Result.andThen_ok,YY,asAddr,Sem.run_pure,b1',BT,SV.cut,SV.v];congr 2;split<;>rfl
  have e3:Option.map ac.eval (ZE:Option Operand)=ZE:=rfl;simp only[execOp,Ad,hv,ZI,e3,Cv,Result.andThen_ok,Sem.run_pure];rfl
 .exact h1.elim
def acF(hT:∀t i,(t,i)∈cx.ty->TIok P t i)(Ad:o.op=.call c)(hc:c.callee=.builtin .append){Bq mx:E}(hl:Ey vw.ev c.args.toList=ZA [.one .nsl,.one (.aw b off n 1 lo Bq mx)])(C5:c.argTypes.toList=[t,t])(hi:am t cx.ty=ZA i)(ha:i.sle=ZA et)(BE:am et cx.ty=ZA ie){cs:List C}(AV:vw.row b off n=ZA cs){L:E}(hL:KP kd .ln cs=ZA L)(hlok:L.lok kw.vk [ZA kd]=ZB)(MI:ie.size=1)(hby:ie.bytes<=65536)(Qb:0<n)(V5:n<=65536)(h:(AL (ib (JA n lo Bq) (ib (ew (Bt mx Bq)) (ew (Bt (.p n) mx)))) (fun ok kw=>if ok then k {val:=.one (.sl vw.nid),rd:=dW b off n,re:=.mk [⟨[ZA kd],et,jc (jb L Bq) lo,ZB,CR [ZA kd]⟩]} kw else .stuck 224) kw).holds sp G U I)(hg:Good sp cx.sm U kw):Sound P sp U G I base cx vw o k kw:=by
 obtain⟨Ch,h1,g1,_,l1⟩:=aS _ _ _ h hg;split at h1
 .rename_i hb;rw[dQ,ne]at hb;obtain⟨b1,b2,b3⟩:=anb hb.1;have OG:Bq.I U<=mx.I U/\mx.I U<=(n:Int):=by
   have h9:=hb.2;rw[dQ,ne,di,di,dq,dq,ZP,ZP]at h9;have h7:=Ab h9.1;have h8:¬((n:Int)<mx.I U):=Ab h9.2;omega
  refine⟨_,Ch,h1,g1,l1,fun j a w hbs Av By Cb BS Ev K Q hK=> ?_⟩;obtain⟨u1,u2,B6,Kf,IN⟩:=Rh (j:=j) (a:=a) hl (fun x hx=>Av x Xp);have e1:=ahb Kf;simp only[V.den,C.den,Ay]at IN;obtain⟨kk,hk,e2⟩:=IN;subst e1 e2;have hu:=(hT _ _ (ab hi)).sle et ha;obtain⟨CL,z,C4,CC,EJ,hz,Ib,I7⟩:=(hT _ _ (ab BE)).info;have Dx:c.argTypes = #[t,t]:=Xu;obtain⟨Px,vs,EN,BB⟩:=nu (U:=U) (w:=w) hk (vw.rowok _ _ _ _ AV) By;obtain⟨q1,q2⟩:=aiW hL EN;simp only[E.R,List.length_nil,bJ,alk,ZQ]at q1 q2;have vlen:vs.length=n:=by rw[aR EN,Px]
  have AY:RowsIn [ZA kd] (L.R U):=⟨E.lok_ok hg.vk L hlok,by rw[q1,Px];simp only[maxLen];omega⟩
  have add0:∀m,(⟨kk,off,ZE⟩:Addr).add m=⟨kk,off+m,ZE⟩:=fun m=>by unfold Addr.add;split<;>simp_all
  have Q9:SlOk U base w ⟨ZA ⟨kk,off,ZE⟩,n,n,[]⟩ ⟨[ZA kd],et,L,ZC,.sl⟩:=by
   refine⟨by show n=_;rw[q1,Px],AY,by simp,fun k B2=> ?_,fun ho=>(by cases ho),?_⟩
   .have B2:=aA B2;simp only[SV.v,Value.ownBlock,bv]at B2;subst B2;have h0:0<vs.length:=Fn;exact World.block_lt_of_cell? w ⟨kk,off+0,ZE⟩ (BB 0 vs[0] (AH h0))
   .refine⟨by rw[q2,vlen];simp,ZK _,by simp only[maxLen];omega,fun h=>Xo,fun ad OB m u hm=> ?_⟩;cases OB;rw[add0];exact BB m u (by rw[<-q2];exact hm)
  have Iy:=ajn (q:=⟨[ZA kd],et,jc (jb L Bq) lo,ZC,.sl⟩) Q9 ⟨rfl,rfl⟩ (by rw[uc,ua]) (l:=(lo.I U).toNat) (h:=(Bq.I U).toNat) (m:=(mx.I U).toNat) Fn (by show _<=n;omega) Fn (by show _<=n;omega);have hn:((⟨ZA ⟨kk,off,ZE⟩,n,n,[]⟩:SV).cut 1 (lo.I U).toNat (Bq.I U).toNat (mx.I U).toNat).n=((jc (jb L Bq) lo).R U).length:=Iy.n;have DE:RdRow w CL.size ((⟨ZA ⟨kk,off,ZE⟩,n,n,[]⟩:SV).cut 1 (lo.I U).toNat (Bq.I U).toNat (mx.I U).toNat) (flat [ZA kd] ((jc (jb L Bq) lo).R U)):=by rw[CC,MI];exact Iy.rd
  have A0:((jc (jb L Bq) lo).R U).length<=65536:=by rw[uc,ua,List.length_drop,List.length_take];omega
  obtain⟨s',w',h2,h3,h4,h5,h6,h7⟩:=ek (P:=P) (base:=w.heap.size) (ty:=o.type) hu C4 hz YD Fn (World.ownsRow_nil w w.heap.size et CL.size) DE ut (by rw[hn];simp only[maxLen];omega)
   (by
    have:(0+(SV.cut ⟨ZA ⟨kk,off,ZE⟩,n,n,[]⟩ 1 (lo.I U).toNat (Bq.I U).toNat (mx.I U).toNat).n)*CL.bytes<=65536*65536:=Nat.mul_le_mul (by rw[hn];omega) Fn;omega) (ZK _)
  simp only[bJ,ZQ]at h3 h4;rw[CC,MI]at h4;rw[<-h3]at h4;have P1:s'.n=((jc (jb L Bq) lo).R U).length:=by rw[h3];exact hn
  refine dT (w':=w') (v:=s'.v) ?_ (hK _ (j.putL vw.nid [s']) _ T5 (od (Ext.of_grown h5) (RowOk.mk_own (r:=⟨[ZA kd],et,jc (jb L Bq) lo,ZB,CR [ZA kd]⟩) (by cases kd<;>rfl) P1 Iy.rows (by simp) h4) rfl rfl));simp only[execOp,Ad,resolve,hc,B6,Dx,ZI,Sem.run_pure,Result.andThen_ok,invoke,builtin];simp only[h2,Result.andThen_ok]
 .exact h1.elim
def ol(kd:IntKind)(l:E):∀(n i:Nat),(mK kd l i n).all C.solid=ZB
 |0,_=>rfl
 |n+1,i=>by simp[mK,C.solid,ol kd l n (i+1)]
def rY{kd:IntKind}{l:E}{j:J}(hr:RowsIn [ZA kd] (l.R U)):∀(n i:Nat),i+n=(l.R U).length->Af U j (mK kd l i n)=ZA (flat [ZA kd] ((l.R U).drop i))
 |0,i,h=>by rw[List.drop_eq_nil_of_le Fn];rfl
 |n+1,i,h=>by
   have As:i<(l.R U).length:=Fn;have ih:=rY (j:=j) hr n (i+1) Fn;have hx:=gL (hr.row _ (List.getElem_mem As));obtain⟨x,F9⟩:∃x,(l.R U)[i]=[x]:=by
    match hq:(l.R U)[i],hx with
    |[x],_=>exact⟨x,rfl⟩
   rw[List.drop_eq_getElem_cons As,cH,F9];have hg:gt (l.R U) (i:Int) 0=x:=by unfold gt;rw[show(l.R U).getD ((i:Int)).toNat []=[x]from by rw[bV,cS,AH As,F9];rfl];rfl
   simp only[mK,Af,C.den,E.I,ih,hg];rfl
def yh(hT:∀t i,(t,i)∈cx.ty->TIok P t i)(Ad:o.op=.call c)(hc:c.callee=.builtin .copy){id:Nat}{t':Nat}(hl:Ey vw.ev c.args.toList=ZA [.one (.aw b off n 1 (.p 0) (.p n) (.p n)),.one (.sl id)])(C5:c.argTypes.toList=[t,t'])(hi:am t cx.ty=ZA i)(ha:i.sle=ZA et)(BE:am et cx.ty=ZA ie)(MI:ie.size=1)(hr:vw.sw id=ZA r)(CH:r.ks=[ZA kd])(Qb:0<n)(h:(AL (Gi (dG r.l) (.p n)) (fun ok kw=>if ok then k {val:=.one (.int .i64 (.p n)),wr:=eG b off (mK kd r.l 0 n),rr:=[id]} kw else .stuck 225) kw).holds sp G U I)(hg:Good sp cx.sm U kw):Sound P sp U G I base cx vw o k kw:=by
 obtain⟨Ch,h1,g1,_,l1⟩:=aS _ _ _ h hg;rw[qh,dP]at h1;split at h1
 .rename_i hb;have hb:(r.l.R U).length=n:=by
   have:=eq_of_beq hb;simp only[E.I]at this;omega
  refine⟨_,Ch,h1,g1,l1,fun j a w hbs Av By Cb BS Ev K Q hK=> ?_⟩;obtain⟨s,hs,Al⟩:=BS.sl id (by simp) r hr;obtain⟨u1,u2,B6,Kf,IN⟩:=Rh (j:=j) (a:=a) hl (fun x hx=>Av x Xp);simp only[V.den,C.den,Ay]at Kf;obtain⟨kk,hk,e1⟩:=Kf;have e2:=vC hs IN;subst e1 e2;have hu:=(hT _ _ (ab hi)).sle et ha;obtain⟨CL,z,C4,CC,_,_,_,_⟩:=(hT _ _ (ab BE)).info;have Dx:c.argTypes = #[t,t']:=Xu;have R8:s.n=n:=by rw[Al.n,hb]
  have DE:=Al.rd;have AY:=Al.rows;rw[CH]at DE AY;obtain⟨ad,OB⟩:∃ad,s.a=ZA ad:=by
   cases hsa:s.a with
   |some ad=>exact⟨ad,rfl⟩
   |none=>have:=(DE.2.2.2.1 hsa).1;omega
  have Tu:(flat [ZA kd] (r.l.R U)).length=n:=by rw[DE.1,R8];simp
  have KY:Af U j (mK kd r.l 0 n)=ZA (flat [ZA kd] (r.l.R U)):=by have:=rY (j:=j) AY n 0 Fn;rwa [List.drop_zero]at this
  have HH:=run_loadCells_list (P:=P) w ad (flat [ZA kd] (r.l.R U)) (fun m u hm=>DE.2.2.2.2 ad OB m u hm);rw[Tu]at HH;obtain⟨w',R4,Ks⟩:=dC (P:=P) hk ⟨kk,off,ZE⟩ (mK kd r.l 0 n) off 0 _ w (fun m=>by rw[bJ,bo]) KY (ol kd r.l n 0) Cb;refine dT (w':=w') (v:=.int .i64 (n:Int)) ?_ (hK _ j w' (by simp[V.den,C.den,E.I]) ⟨rfl,w,.refl w,R4⟩);obtain⟨sa,sn,sc,sz⟩:=s;simp only at OB R8;subst OB R8;have Ba:CL.size=1:=by rw[CC,MI]
  have Iy:((⟨ZA ⟨kk,off,ZE⟩,sn,sn,[]⟩:SV).cut 1 ((E.p 0).I U).toNat ((E.p (sn:Int)).I U).toNat ((E.p (sn:Int)).I U).toNat).v=.slice (ZA ⟨kk,off,ZE⟩) sn sn:=by have e5:((E.p 0).I U).toNat=0:=rfl;have e6:((E.p (sn:Int)).I U).toNat=sn:=cS sn;rw[e5,e6];simp only[SV.cut,SV.v,Nat.sub_zero];rw[if_neg (by omega:¬sn=0)];simp only[YU,Nat.zero_mul,bo,ZS]
  rw[Iy]at B6;simp only[execOp,Ad,resolve,hc,B6,Dx,ZI,Sem.run_pure,Result.andThen_ok,invoke,builtin,SV.v];simp[Builtin.copy_,run_underlying hu,Builtin.lenOf,Builtin.firstCells,sizeOf,typeInfo,C4,Ba,HH,Ks,goInt]
 .exact h1.elim
def opY(cx:Cx)(vw:Vw)(op:Op)(kw:Kw)(k:Eff->Kw->Tr):Option Tr:=match op with
 |.buildSlice t n ps=>match K8 vw.ev ps.toList,am t cx.ty with
   |some A5,ZA i=>match i.sle with
     |some et=>match am et cx.ty with
       |some ie=>if ZJ n 1&&ZJ ie.size 3 then(match qY (fun m=>ZA (m*ie.size,ie.size)) ((ZM 1 ie.zero).flatten) A5 with
         |some [.int .i64 e1,.sl id,.int .u64 e2]=>match vw.sw id with
           |some r=>if r.own&&(dc r.ks [ZA .u64]&&(Mm kw.vk e1 e2 r.l).rok kw.vk Do)then
            ZA (AL (Bt (.p 5) (dG r.l)) (fun b An=>if b then .stuck 220 else k {val:=.one (.sl vw.nid),rr:=[id],re:=.frz id {r with own:=ZC} ⟨Do,et,.lq .ln (Mm kw.vk e1 e2 r.l),ZB,.ev⟩} An) kw)else ZE
           |none=>ZE
         |_=>ZE)else ZE
       |none=>ZE
     |none=>ZE
   |_,_=>ZE
 |.slice t x lo hi mx=>match vw.ev x,am t cx.ty,mx with
   |some (.one (.ptr b off)),ZA i,ZE=>match i.arr with
     |some (n,et)=>match am et cx.ty,J7 vw lo (.p 0),J7 vw hi (.p n)with
       |some ie,ZA a,ZA c=>if lo.isSome||hi.isSome then ZA (AL (JA n a c) (fun ok kw=>if ok then k {val:=.one (.aw b off n ie.size a c (.p n))} kw else .panic) kw)else ZE
       |_,_,_=>ZE
     |none=>ZE
   |_,_,_=>ZE
 |.call c=>match c.callee with
   |.builtin .len=>match Ey vw.ev c.args.toList,c.argTypes.toList with
     |some [.one (.sl id)],[t]=>match am t cx.ty,vw.evw id with
       |some i,ZA r=>if i.sle.isSome then ZA (k {val:=.one (.int .i64 (Iq kw.vk r.l)),rr:=[id]} kw)else ZE
       |_,_=>ZE
     |_,_=>ZE
   |.builtin .append=>match Ey vw.ev c.args.toList,c.argTypes.toList with
     |some [.one (.sl old),.one (.sl id)],[t,t']=>match am t cx.ty,vw.evw id,vw.evw old with
       |some i,ZA r,ZA q=>match i.sle with
         |some et=>match am et cx.ty with
           |some ie=>if ZJ t t'&&(ZJ ie.size 3&&(decide (ie.bytes<=65536)&&(r.own&&(q.own&&ZJ q.ty et))))then
            ZA (AL (ib (Bt (dG q.l) (.p EO)) (Bt (dG r.l) (.p EO))) (fun b kw=>if b then k {val:=.one (.sl vw.nid),rr:=[old,id],re:=.app old ⟨Do,et,DU q.l r.l,ZB,.ev⟩} kw else .panic) kw)else ZE
           |none=>ZE
         |none=>ZE
       |_,_,_=>ZE
     |some [.one .nsl,.one (.aw b off n sz lo hi mx)],[t,t']=>match am t cx.ty with
       |some i=>match i.sle with
         |some et=>match am et cx.ty with
           |some ie=>match ie.ik,vw.row b off n with
             |some kd,ZA cs=>match KP kd .ln cs with
               |some L=>if ZJ t t'&&(ZJ ie.size 1&&(ZJ sz 1&&(decide (ie.bytes<=65536)&&(decide (0<n)&&(decide (n<=65536)&&L.lok kw.vk [ZA kd])))))then
                ZA (AL (ib (JA n lo hi) (ib (ew (Bt mx hi)) (ew (Bt (.p n) mx)))) (fun ok kw=>if ok then k {val:=.one (.sl vw.nid),rd:=dW b off n,re:=.mk [⟨[ZA kd],et,jc (jb L hi) lo,ZB,CR [ZA kd]⟩]} kw else .stuck 224) kw)else ZE
               |none=>ZE
             |_,_=>ZE
           |none=>ZE
         |none=>ZE
       |none=>ZE
     |_,_=>ZE
   |.builtin .copy=>match Ey vw.ev c.args.toList,c.argTypes.toList with
     |some [.one (.aw b off n sz (.p l0) (.p l1) (.p l2)),.one (.sl id)],[t,_]=>match am t cx.ty with
       |some i=>match i.sle with
         |some et=>match am et cx.ty with
           |some ie=>match vw.sw id with
             |some r=>match r.ks with
               |[ZA kd]=>if ZJ ie.size 1&&(ZJ sz 1&&(decide (0<n)&&(fC l0 0&&(fC l1 n&&fC l2 n))))then
                ZA (AL (Gi (dG r.l) (.p n)) (fun ok kw=>if ok then k {val:=.one (.int .i64 (.p n)),wr:=eG b off (mK kd r.l 0 n),rr:=[id]} kw else .stuck 225) kw)else ZE
               |_=>ZE
             |none=>ZE
           |none=>ZE
         |none=>ZE
       |none=>ZE
     |_,_=>ZE
   |_=>ZE
 |_=>ZE
def asb(hT:∀t i,(t,i)∈cx.ty->TIok P t i)(ht:opY cx vw o.op kw k=ZA tr)(h:tr.holds sp G U I)(hg:Good sp cx.sm U kw):Sound P sp U G I base cx vw o k kw:=by
 cases Ad:o.op<;>rw[Ad]at ht<;>simp only[opY]at ht
 case buildSlice t n ps=>
  split at ht
  .rename_i A5 i Gy hi;split at ht
   .rename_i et ha;split at ht
    .rename_i ie BE;split at ht
     .rename_i hn;rw[ne]at hn;have V5:=Ak hn.1;subst V5;split at ht
      .rename_i e1 id e2 En;split at ht
       .rename_i r hr;split at ht
        next hq=>simp only[ne]at hq;cases ht;exact ae5 hT Ad Gy hi ha BE En (Ak hn.2) hr hq.1 (cJ hq.2.1) hq.2.2 h hg
        .exact Xr
       .exact Xr
      .exact Xr
     .exact Xr
    .exact Xr
   .exact Xr
  .exact Xr
 case slice t x lo Bq mx=>
  split at ht
  .rename_i b off i hx hi;split at ht
   .rename_i n et ha;split at ht
    .rename_i ie a c BE Nq Oc;split at ht
     .cases ht;exact acC hT Ad hx hi ha BE Nq Oc h hg
     .exact Xr
    .exact Xr
   .exact Xr
  .exact Xr
 case call c=>
  split at ht
  .rename_i hc;split at ht
   .rename_i id t hl C5;split at ht
    .rename_i i r hi hr;split at ht
     next Gp=>cases ht;exact ae6 hT Ad hc hl C5 hi Gp hr h hg
     .exact Xr
    .exact Xr
   .exact Xr
  .rename_i hc;split at ht
   .rename_i old id t t' hl C5;split at ht
    .rename_i i r q hi hr hq;split at ht
     .rename_i et ha;split at ht
      .rename_i ie BE;split at ht
       next hp=>simp only[ne,aB]at hp;have e1:=Ak hp.1;subst e1;cases ht;exact vt hT Ad hc hl C5 hi ha BE hr hq (Ak hp.2.1) hp.2.2.1 hp.2.2.2.1 hp.2.2.2.2.1 (Ak hp.2.2.2.2.2) h hg
       .exact Xr
      .exact Xr
     .exact Xr
    .exact Xr
   .rename_i b off n sz lo Bq mx t t' hl C5;split at ht
    .rename_i i hi;split at ht
     .rename_i et ha;split at ht
      .rename_i ie BE;split at ht
       .rename_i kd cs Lt AV;split at ht
        .rename_i L hL;split at ht
         next hp=>simp only[ne,aB]at hp;obtain⟨p1,p2,p3,p4,p5,p6,p7⟩:=hp;have p1:=Ak p1;have p3:=Ak p3;subst p1 p3;cases ht;exact acF hT Ad hc hl C5 hi ha BE AV hL p7 (Ak p2) p4 p5 p6 h hg
         .exact Xr
        .exact Xr
       .exact Xr
      .exact Xr
     .exact Xr
    .exact Xr
   .exact Xr
  .rename_i hc;split at ht
   .rename_i b off n sz l0 l1 l2 id t t' hl C5;split at ht
    .rename_i i hi;split at ht
     .rename_i et ha;split at ht
      .rename_i ie BE;split at ht
       .rename_i r hr;split at ht
        .rename_i kd CH;split at ht
         next hp=>simp only[ne,aB]at hp;obtain⟨p1,p2,p3,p4,p5,p6⟩:=hp;have p2:=Ak p2;have p4:=cR p4;have p5:=cR p5;have p6:=cR p6;subst p2 p4 p5 p6;cases ht;exact yh hT Ad hc hl C5 hi ha BE (Ak p1) hr CH p3 h hg
         .exact Xr
        .exact Xr
       .exact Xr
      .exact Xr
     .exact Xr
    .exact Xr
   .exact Xr
  .exact Xr
 all_goals cases ht
def NC(cx:Cx)(vw:Vw)(op:Op)(kw:Kw)(k:Eff->Kw->Tr):Tr:=match opY cx vw op kw k with
 |some t=>t
 |none=>match opX cx vw op kw k with
   |some t=>t
   |none=>opK cx vw op kw k
def apF(hT:∀t i,(t,i)∈cx.ty->TIok P t i)(hS:∀s∈cx.sm,SmOk P sp s)(AR:∀s∈cx.sm,∀s'∈cx.sm,s.key=s'.key->s=s')(h:(NC cx vw o.op kw k).holds sp G U I)(hg:Good sp cx.sm U kw):Sound P sp U G I base cx vw o k kw:=by
 unfold NC at h;split at h
 next t ht=>exact asb hT ht h hg
 .split at h
  next t ht=>exact asc hT ht h hg
  .exact ase hT hS AR h hg
end
def aoN(cx:Cx):Option (Nat×List CE×Nat):=match am 999995 cx.hints with
 |some [.tmpS t ks st]=>ZA (t,ks,st)
 |_=>ZE
def yX(cx:Cx)(t:Nat):Bool:=match am 999994 cx.hints with
 |some [.only l]=>l.any (ZJ t)
 |_=>ZC
def ahQ(cx:Cx)(t:Nat):Bool:=match am 999993 cx.hints with
 |some [.only l]=>l.any (ZJ t)
 |_=>ZC
def C.isZk(kd:IntKind):C->Bool
 |.int k (.p z)=>bE k kd&&fC z 0
 |_=>ZC
def adG{U:Env}{j:J}{kd:IntKind}:∀{cs:List C} {vs:List Value},cs.all (C.isZk kd)=ZB->Af U j cs=ZA vs->vs=ZM cs.length (.int kd 0)
 |[],vs,_,h=>by cases h;rfl
 |c::cs,vs,hc,h=>by
   rw[ZY,ne]at hc;have h1:=hc.1;unfold C.isZk at h1;split at h1
   .rename_i k z;rw[ne]at h1;have e1:=ar h1.1;have e2:=cR h1.2;subst e1 e2;simp only[Af,C.den,E.I]at h;cases hl:Af U j cs with
    |none=>rw[hl]at h;cases h
    |some us=>rw[hl]at h;cases h;rw[adG hc.2 hl];rfl
   .cases h1
def sF:List CE->E
 |[]=>.nil
 |none::ks=>.j (.tt ZC) (sF ks)
 |some _::ks=>.cons (.p 0) (sF ks)
def xB(U:Env):∀ks:List CE,(sF ks).L U=ZM ks.length 0
 |[]=>rfl
 |none::ks=>by simp only[sF,E.L,xB U ks,E.B,YS,List.replicate_succ];rfl
 |some _::ks=>by simp only[sF,E.L,xB U ks,E.I,YS,List.replicate_succ]
def adE:∀ks:List CE,av ks (ZM ks.length 0)=ZB
 |[]=>rfl
 |none::ks=>by simp[List.replicate_succ,av,Dn,adE ks]
 |some k::ks=>by simp[List.replicate_succ,av,Dn,kJ,adE ks]
def C.isNilp:C->Bool
 |.np=>ZB
 |_=>ZC
def wK{U:Env}{j:J}:∀{cs:List C} {vs:List Value},cs.all C.isNilp=ZB->Af U j cs=ZA vs->vs=(ZM cs.length (ZE:Option Addr)).map Value.pointer
 |[],vs,_,h=>by cases h;rfl
 |c::cs,vs,hc,h=>by
   rw[ZY,ne]at hc;cases c<;>first|cases hc.1|skip
   simp only[Af,C.den]at h;cases hl:Af U j cs with
   |none=>rw[hl]at h;cases h
   |some us=>rw[hl]at h;cases h;rw[wK hc.2 hl];rfl
def JK(l e:E):Nat->List CE->E
 |_,[]=>.nil
 |c,ZE::ks=>.j (qg l e c) (JK l e (c+1) ks)
 |c,ZA _::ks=>.cons (qV l e c) (JK l e (c+1) ks)
def am5{U:Env}{l e:E}{row:List Int}(h:(l.R U)[(e.I U).toNat]? =ZA row):∀(ks:List CE) (c:Nat),av ks (row.drop c)=ZB->(JK l e c ks).L U=row.drop c
 |[],c,hr=>by
   cases hd:row.drop c with
   |nil=>rfl
   |cons x xs=>rw[hd]at hr;cases hr
 |k::ks,c,hr=>by
   cases hd:row.drop c with
   |nil=>rw[hd]at hr;cases hr
   |cons x xs=>
     have hx:row.getD c 0=x:=by have:=congrArg List.head? hd;rw[List.head?_drop]at this;rw[bV,this];rfl
     have MQ:row.drop (c+1)=xs:=by rw[<-List.tail_drop,hd];rfl
     rw[hd]at hr;simp only[av,ne]at hr;have hg:gt (l.R U) (e.I U) c=x:=by unfold gt;rw[bV (l:=l.R U),h];exact hx
     have ih:=am5 h ks (c+1) (by rw[MQ];exact hr.2);rw[MQ]at ih;cases k with
     |some kd=>simp only[JK,E.L,yN,hg,ih]
     |none=>have h0:=hr.1;simp only[Dn,fk,cL]at h0;simp only[JK,E.L,ub,hg,ih];rcases h0 with rfl|rfl<;>rfl
def EC(l e:E)(c:Nat)(ks:List CE):E:=match(mC l e).bind (PX c)with
 |some t=>t
 |none=>JK l e c ks
def zn{U:Env}:∀{c:Nat} {row t:E},PX c row=ZA t->t.L U=(row.L U).drop c
 |0,row,t,h=>by cases h;rfl
 |c+1,.cons _ u,t,h=>zn (c:=c) (row:=u) h
 |c+1,.j _ u,t,h=>zn (c:=c) (row:=u) h
def ahl{r:E}(h:mC l e=ZA r):(l.R U)[(e.I U).toNat]? =ZA (r.L U):=by
 unfold mC at h;split at h
 next i=>exact wq U l i r h
 .exact Xo
def am4{row:List Int}(h:(l.R U)[(e.I U).toNat]? =ZA row)(ks:List CE)(c:Nat)(hr:av ks (row.drop c)=ZB):(EC l e c ks).L U=row.drop c:=by
 unfold EC;split
 next t ht=>rw[cY]at ht;obtain⟨r,h1,h2⟩:=ht;have h3:=ahl (U:=U) h1;rw[h]at h3;cases h3;exact zn h2
 .exact am5 h ks c hr
def nv:∀{ks:List CE} {row:List Int} (c:Nat),av ks row=ZB->av (ks.drop c) (row.drop c)=ZB
 |ks,row,0,h=>h
 |[],[],c+1,_=>rfl
 |k::ks,x::xs,c+1,h=>by simp only[av,ne]at h;exact nv c h.2
def pO:∀{ks:List CE} {row:List Int} (c m:Nat),av ks row=ZB->(Bi ks row)[c+m]? =(Bi (ks.drop c) (row.drop c))[m]?
 |ks,row,0,m,h=>by rw[bJ];rfl
 |[],[],c+1,m,_=>by simp[Bi]
 |k::ks,x::xs,c+1,m,h=>by simp only[av,ne]at h;rw[show c+1+m=(c+m)+1 by omega];simpa[Bi]using pO c m h.2
def nX:List CE->E->List C->Option E
 |_,t,[]=>ZA t
 |some k::ks,.cons _ t,.int k' x::cs=>if bE k' k then(nX ks t cs).map (.cons x ·)else ZE
 |none::ks,.j _ t,.bool x::cs=>(nX ks t cs).map (.j x ·)
 |_,_,_=>ZE
def yD:Nat->List CE->E->List C->Option E
 |0,ks,t,cs=>nX ks t cs
 |off+1,_::ks,.cons a t,cs=>(yD off ks t cs).map (.cons a ·)
 |off+1,_::ks,.j a t,cs=>(yD off ks t cs).map (.j a ·)
 |_,_,_,_=>ZE
def al6(R:List Int)(c:Nat)(x:Int):st [R] 0 c x=[R.set c x]:=rfl
def afm(P R:List Int)(y x:Int):(P++y::R).set P.length x=(P++[x])++R:=by simp
def pP{U:Env}{vk:List VK}:∀(cs:List C) (ks:List CE) (t t' l:E) (Q:List Int),cs.all (C.rng vk)=ZB->nX ks t cs=ZA t'->l.R U=[Q++t.L U]->∃l',fX vk l (.p 0) Q.length ks cs=ZA l'/\l'.R U=[Q++t'.L U]
 |[],ks,t,t',l,Q,_,h,hl=>by
   have e:t'=t:=by
    unfold nX at h;cases ks with
    |nil=>exact(ZN h).symm
    |cons k ks=>cases k<;>exact(ZN h).symm
   subst e;refine⟨l,?_,hl⟩;unfold fX;cases ks with
   |nil=>rfl
   |cons k ks=>cases k<;>rfl
 |c::cs,ks,t,t',l,Q,hr,h,hl=>by
   simp only[ZY,ne]at hr;cases ks with
   |nil=>simp[nX]at h
   |cons k ks=>
     cases k with
     |some kd=>
       cases t<;>cases c<;>simp only[nX]at h<;>first|cases h|skip
       rename_i a t k' x;split at h
       .rename_i hk;rw[Ay]at h;obtain⟨t1,h1,rfl⟩:=h;obtain⟨l',h2,h3⟩:=pP (U:=U) cs ks t t1 (.lset l (.p 0) Q.length x) (Q++[x.I U]) hr.2 h1 (by simp only[E.R,E.L,E.I,hl,al6,afm]);refine⟨l',?_,by rw[h3];simp[E.L]⟩;have D1:(bE k' kd&&x.rng vk kd)=ZB:=by
         have h9:x.rng vk k'=ZB:=hr.1;rw[ar hk]at h9;rw[hk,h9];rfl
        simp only[fX,D1,if_true];rw[<-h2];simp
       .exact Xo
     |none=>
       cases t<;>cases c<;>simp only[nX]at h<;>first|cases h|skip
       rename_i a t x;rw[Ay]at h;obtain⟨t1,h1,rfl⟩:=h;obtain⟨l',h2,h3⟩:=pP (U:=U) cs ks t t1 (.lsetb l (.p 0) Q.length x) (Q++[AE (x.B U)]) hr.2 h1 (by simp only[E.R,E.L,E.I,hl,al6,afm]);refine⟨l',?_,by rw[h3];simp[E.L]⟩;simp only[fX];rw[<-h2];simp
def tK{U:Env}{vk:List VK}:∀(off:Nat) (cs:List C) (ks:List CE) (t t' l:E) (Q:List Int),cs.all (C.rng vk)=ZB->yD off ks t cs=ZA t'->l.R U=[Q++t.L U]->∃l',fX vk l (.p 0) (Q.length+off) (ks.drop off) cs=ZA l'/\l'.R U=[Q++t'.L U]
 |0,cs,ks,t,t',l,Q,hr,h,hl=>pP cs ks t t' l Q hr (by cases ks<;>exact h) hl
 |off+1,cs,ks,t,t',l,Q,hr,h,hl=>by
   cases ks with
   |nil=>simp[yD]at h
   |cons k ks=>
     cases t<;>simp only[yD]at h<;>first|cases h|skip
     next a t=>rw[Ay]at h;obtain⟨t1,h1,rfl⟩:=h;obtain⟨l',h2,h3⟩:=tK (U:=U) off cs ks t t1 l (Q++[a.I U]) hr h1 (by rw[hl];simp[E.L]);refine⟨l',?_,by rw[h3];simp[E.L]⟩;rw[<-h2];simp only[List.drop_succ_cons,eg,YS,List.length_nil];congr 1;omega
     next a t=>rw[Ay]at h;obtain⟨t1,h1,rfl⟩:=h;obtain⟨l',h2,h3⟩:=tK (U:=U) off cs ks t t1 l (Q++[AE (a.B U)]) hr h1 (by rw[hl];simp[E.L]);refine⟨l',?_,by rw[h3];simp[E.L]⟩;rw[<-h2];simp only[List.drop_succ_cons,eg,YS,List.length_nil];congr 1;omega
def Ga(l e:E):E:=match l with
 |.lput _ e' row=>if e'.same e then .lq .ln row else l
 |l=>l
def G6(l e:E):E:=match l with
 |.lput _ e' _=>if e'.same e then .p 0 else e
 |_=>e
def arR{row:List Int}(h:(l.R U)[(e.I U).toNat]? =ZA row):((Ga l e).R U)[((G6 l e).I U).toNat]? =ZA row:=by
 cases l<;>first|exact h|skip
 rename_i a e' r;simp only[Ga,G6];split
 next hs=>have he:=E.same_eq hs;subst he;simp only[E.R]at h;have As:=(cZ.1 h).1;rw[List.length_set]at As;rw[List.getElem?_set_self As]at h;simpa[E.R,E.I]using h
 .exact h
def Vw.tabw(vw:Vw)(id:Nat):Option RowOb:=match vw.rw id with
 |some r=>match r.kd with
   |.tab=>ZA r
   |_=>ZE
 |none=>ZE
def Vw.tabw_some{vw:Vw}{id:Nat}(h:vw.tabw id=ZA r):vw.rw id=ZA r/\r.kd=.tab:=by
 unfold Vw.tabw at h;split at h
 .rename_i q hq;split at h
  next hk=>cases h;exact⟨hq,hk⟩
  .exact Xo
 .exact Xo
section
variable {P:Program}{sp:Spec}{U:Env}{G:Env->E->Prop}{I:Nat->List Dt->Prop}{base:Nat}{cx:Cx}{vw:Vw}{o:Oper}{k:Eff->Kw->Tr}
def RrOk.tb{rr:List Nat}(h:RrOk U base j w vw.rw rr)(id:Nat)(Ik:id∈rr)(r:RowOb)(hr:vw.tabw id=ZA r):∃s,j.s id=ZA s/\HdOk U base w s r/\TbAt U j w s r/\∀k o,j.g.z k=ZA o->w.heap[k]? =ZA o:=by obtain⟨h1,h2⟩:=Vw.tabw_some hr;obtain⟨s,h3,h4,_,_,h5⟩:=h id Ik r h1;exact⟨s,h3,h4.2.1 (by rw[h2];rfl),(h5 h2).1,(h5 h2).2⟩
def agW{cells:Array Value}{r:E}(h1:cells.toList=Bi ks (r.L U))(h2:av ks (r.L U)=ZB)(h3:0<ks.length):RowOk U w.heap.size (w.alloc (.cells cells t)) ⟨ZA ⟨w.heap.size,0,ZE⟩,1,1,[]⟩ ⟨ks,t,.lq .ln r,ZB,.sl⟩:=by
 have e:(E.lq .ln r).R U=[r.L U]:=by simp[E.R]
 have f:flat ks [r.L U]=cells.toList:=by rw[h1];simp[flat]
 have hs:cells.size=1*ks.length:=by have:=congrArg List.length h1;rw[dn h2]at this;simpa using this
 have own:=World.ownsRow_lit (base:=w.heap.size) (e:=t) (size:=ks.length) w cells 1 (ZK _) (by simp[maxLen]) hs;refine RowOk.mk_own rfl (by rw[e];rfl) ⟨fun q hq=> ?_,by rw[e];simp[maxLen]⟩ h3 ?_
 .rw[e,dv]at hq;rw[hq];exact h2
 .rw[e,f];exact own
def Ui{a:Nat}:(V.one (.ep nid n (.p 0) 0)).den U (j.putL nid [⟨ZA ⟨g,0,ZE⟩,a,b,[]⟩])=ZA (.pointer (ZA ⟨g,0,ZE⟩)):=by simp[V.den,C.den,J.putL,SV.elem,E.I,bo]
def vy(hT:∀t i,(t,i)∈cx.ty->TIok P t i)(Ad:o.op=.alloc t)(hi:am t cx.ty=ZA i){r:E}(hr:Gc kw.vk ks i.zero=ZA r)(Eo:0<ks.length)(h:(k {val:=.one (.ep vw.nid ks.length (.p 0) 0),re:=.mk [⟨ks,t,.lq .ln r,ZB,.sl⟩]} kw).holds sp G U I)(hg:Good sp cx.sm U kw):Sound P sp U G I base cx vw o k kw:=by
 refine⟨_,kw,h,hg,.refl _,fun j a w hb Av By Cb BS Ev K Q hK=> ?_⟩;obtain⟨z,hz,hd⟩:=(hT _ _ (ab hi)).zero;obtain⟨h1,h2⟩:=ny hg.vk hr (hd U j);refine dT (w':=w.alloc (.cells z.cells t)) (v:=.pointer (ZA ⟨w.heap.size,0,ZE⟩)) ?_ (hK _ (j.putL vw.nid [⟨ZA ⟨w.heap.size,0,ZE⟩,1,1,[]⟩]) _ Ui (od (Ext.of_grown (World.grownBy_alloc w _ ZE)) (agW h1 h2 Eo) rfl rfl));simp[execOp,Ad,Instr.alloc,ZI,hz,newVar,newRow,newObj,Sem.run]
def acD(Ad:o.op=.box t x){v:V}(hv:vw.ev x=ZA v)(hf:v.flat=ZB){r:E}(hr:Gc kw.vk ks v.cells=ZA r)(Eo:0<ks.length)(h:(k {val:=.one (.ep vw.nid ks.length (.p 0) 0),re:=.mk [⟨ks,t,.lq .ln r,ZB,.sl⟩]} kw).holds sp G U I)(hg:Good sp cx.sm U kw):Sound P sp U G I base cx vw o k kw:=by
 refine⟨_,kw,h,hg,.refl _,fun j a w hb Av By Cb BS Ev K Q hK=> ?_⟩;have hd:=V.cells_ok (Av x Or v hv) hf;obtain⟨h1,h2⟩:=ny hg.vk hr hd;refine dT (w':=w.alloc (.cells (a.eval x).cells t)) (v:=.pointer (ZA ⟨w.heap.size,0,ZE⟩)) ?_ (hK _ (j.putL vw.nid [⟨ZA ⟨w.heap.size,0,ZE⟩,1,1,[]⟩]) _ Ui (od (Ext.of_grown (World.grownBy_alloc w _ ZE)) (agW h1 h2 Eo) rfl rfl));simp[execOp,Ad,Instr.box,ZI,newVar,newRow,newObj,Sem.run]
def vx(hT:∀t i,(t,i)∈cx.ty->TIok P t i)(Ad:o.op=.alloc t)(hi:am t cx.ty=ZA i)(ks:List CE)(st:Nat)(hn:i.zero.all C.isNilp=ZB)(hl:i.zero.length<=65536)(h:(k {val:=.one (.ep vw.nid 1 (.p 0) 0),re:=.mk [⟨ZE::ks,st,.lrep (.p i.zero.length) (sF (ZE::ks)),ZB,.tab⟩]} kw).holds sp G U I)(hg:Good sp cx.sm U kw):Sound P sp U G I base cx vw o k kw:=by
 refine⟨_,kw,h,hg,.refl _,fun j a w hb Av By Cb BS Ev K Q hK=> ?_⟩;obtain⟨z,hz,hd⟩:=(hT _ _ (ab hi)).zero;have e:=wK hn (hd U j);have CT:z.cells=((ZM i.zero.length (ZE:Option Addr)).map Value.pointer).toArray:=by rw[<-e,Array.toArray_toList]
 have hR:(E.lrep (.p i.zero.length) (sF (ZE::ks))).R U=ZM i.zero.length (ZM (ks.length+1) 0):=by simp only[E.R,E.I,xB,cS,YS]
 have hhp:=heap_alloc_new w (.cells z.cells t);refine dT (w':=w.alloc (.cells z.cells t)) (v:=.pointer (ZA ⟨w.heap.size,0,ZE⟩)) ?_ (hK _ (j.putL vw.nid [⟨ZA ⟨w.heap.size,0,ZE⟩,1,1,[]⟩]) _ Ui (od (Ext.of_grown (World.grownBy_alloc w _ ZE)) (HdOk.row ⟨rfl,⟨fun q hq=> ?_,?_⟩,rfl,w.heap.size,_,rfl,ZK _,hhp,?_⟩ rfl) rfl rfl rfl (fun _ jj=>⟨w.heap.size,ZM i.zero.length ZE,t,rfl,by rw[<-CT];exact hhp,by rw[hR];simp,fun m row p hm hp=> ?_⟩)))
 .exact XJ
 .rw[hR]at hq;rw[(List.mem_replicate.1 hq).2];exact adE (ZE::ks)
 .rw[hR,List.length_replicate];simp only[maxLen];omega
 .exact⟨ZM i.zero.length ZE,t,by rw[<-CT]⟩
 .have PV:=fD hp;rw[(List.mem_replicate.1 PV).2];have hm:((E.lrep (.p i.zero.length) (sF (ZE::ks))).R U)[m]? =ZA row:=hm;rw[hR]at hm;rw[(List.mem_replicate.1 (fD hm)).2];simp[PtIs,List.replicate_succ]
def vz(hT:∀t i,(t,i)∈cx.ty->TIok P t i)(Ad:o.op=.alloc t)(hi:am t cx.ty=ZA i)(hn:i.zero.all (C.isZk kd)=ZB)(hl:i.zero.length<=65536)(h:(k {val:=.one (.ep vw.nid 1 (.p 0) 0),re:=.mk [⟨[ZA kd],t,.lrep (.p i.zero.length) (.cons (.p 0) .nil),ZB,.sl⟩]} kw).holds sp G U I)(hg:Good sp cx.sm U kw):Sound P sp U G I base cx vw o k kw:=by
 refine⟨_,kw,h,hg,.refl _,fun j a w hb Av By Cb BS Ev K Q hK=> ?_⟩;obtain⟨z,hz,hd⟩:=(hT _ _ (ab hi)).zero;have e:=adG hn (hd U j);have hR:(E.lrep (.p i.zero.length) (.cons (.p 0) .nil)).R U=ZM i.zero.length [0]:=by simp only[E.R,E.I,E.L,cS]
 have FZ:flat [ZA kd] (ZM i.zero.length [0])=z.cells.toList:=by
  rw[e];generalize i.zero.length=m
  induction m with
  |zero=>rfl
  |succ m ih=>rw[List.replicate_succ,cH,ih,List.replicate_succ];rfl
 have BT:z.cells.size=i.zero.length*1:=by have:=congrArg List.length e;simpa using this
 have own:=World.ownsRow_lit (base:=w.heap.size) (e:=t) (size:=1) w z.cells i.zero.length (ZK _) Yg BT;refine dT (w':=w.alloc (.cells z.cells t)) (v:=.pointer (ZA ⟨w.heap.size,0,ZE⟩)) ?_ (hK _ (j.putL vw.nid [⟨ZA ⟨w.heap.size,0,ZE⟩,i.zero.length,i.zero.length,[]⟩]) _ Ui (od (Ext.of_grown (World.grownBy_alloc w _ ZE)) (RowOk.mk_own rfl (by rw[hR];simp) ⟨fun q hq=> ?_,?_⟩ (by simp) (by rw[hR,FZ];exact own)) rfl rfl))
 .exact XJ
 .rw[hR]at hq;rw[(List.mem_replicate.1 hq).2];simp[av,Dn,kJ]
 .rw[hR,List.length_replicate];simp only[maxLen];omega
def vl(hT:∀t i,(t,i)∈cx.ty->TIok P t i)(Ad:o.op=.indexAddr t x y){id:Nat}(hx:vw.ev x=ZA (.one (.ep id 1 (.p 0) 0)))(hy:vw.ev y=ZA (.one (.int k0 e)))(hi:am t cx.ty=ZA i)(ha:i.arr=ZA (n,et))(BE:am et cx.ty=ZA ie)(MI:ie.size=1)(h:(AL (Kk e n) (fun ok kw=>if ok then k {val:=.one (.ep id 1 e 0)} kw else .panic) kw).holds sp G U I)(hg:Good sp cx.sm U kw):Sound P sp U G I base cx vw o k kw:=by
 obtain⟨Ch,g1,q1,_,l1⟩:=aS _ _ _ h hg;rw[SQ]at g1;split at g1
 .rename_i hr;rw[ne,aB,aB]at hr;have hu:=(hT _ _ (ab hi)).arr n et ha;have hs:=(hT _ _ (ab BE)).size;refine⟨_,Ch,g1,q1,l1,OpOk.pure fun j a w _ Av _ _ _=> ?_⟩;have hd:=Av x Or _ hx;simp only[V.den,C.den,cY,SV.elem,Ay]at hd;obtain⟨s,CF,p,hp,he⟩:=hd;have hq:=dh (Av y Or _ hy);refine⟨.pointer (ZA (p.add ((e.I U).toNat*1+0))),by simp[V.den,C.den,CF,SV.elem,hp],?_⟩;have Ic:=he.symm;simp only[E.I,Int.toNat_zero,Nat.zero_mul,ZS]at Ic;have JW:(p.add 0).add ((e.I U).toNat*1)=p.add ((e.I U).toNat*1+0):=by rw[bU];congr 1;omega
  rw[<-JW];simp[execOp,Ad,Ic,hq,Instr.indexAt,run_underlying hu,YY,asIntOf,hr,hs,MI,ZI]
 .exact g1.elim
def uH(g m:Nat):(⟨g,0,ZE⟩:Addr).add m=⟨g,m,ZE⟩:=by rw[bo,bJ]
def aaf{ty:Nat}{ps:List (Option Addr)}{p:Option Addr}(hh:w.heap[g]? =ZA (.cells (ps.map Value.pointer).toArray ty (0,0)))(hp:ps[m]? =ZA p):w.cell? ⟨g,m,ZE⟩=ZA (.pointer p):=by simp[World.cell?,hh,hp]
def yf(hT:∀t i,(t,i)∈cx.ty->TIok P t i)(Ad:o.op=.load t x){id:Nat}(hx:vw.ev x=ZA (.one (.ep id 1 e 0)))(hi:am t cx.ty=ZA i)(Bu:i.agg=ZC)(hr:vw.tabw id=ZA r)(CH:r.ks=ZE::ks)(Eo:0<ks.length)(h:(AL (GF e r.l) (fun ok kw=>if ok then AL (qg (Ga r.l e) (G6 r.l e) 0) (fun b kw=>if b then k {val:=.one (.ep vw.nid ks.length (.p 0) 0),rr:=[id],re:=.peek ⟨ks,r.ty,.lq .ln (EC (Ga r.l e) (G6 r.l e) 1 ks),ZC,.sl⟩} kw else k {val:=.one .np,rr:=[id]} kw) kw else .stuck 270) kw).holds sp G U I)(hg:Good sp cx.sm U kw):Sound P sp U G I base cx vw o k kw:=by
 obtain⟨Ch,h1,g1,_,l1⟩:=aS _ _ _ h hg;rw[wY]at h1;have ht:=hT _ _ (ab hi);split at h1
 .rename_i hb;simp only[ne,aB]at hb;obtain⟨Dy,h2,g2,_,l2⟩:=aS _ _ _ h1 g1;rw[ub]at h2;have As:(e.I U).toNat<(r.l.R U).length:=Fn;have AV:=AH As;obtain⟨row,EY⟩:∃row,row=(r.l.R U)[(e.I U).toNat]:=⟨_,rfl⟩
  rw[<-EY]at AV;have Cw:=arR AV;have hg0:gt ((Ga r.l e).R U) ((G6 r.l e).I U) 0=row.getD 0 0:=by unfold gt;rw[bV (l:=(Ga r.l e).R U),Cw];rfl
  rw[hg0]at h2;have cell:∀{j:J} {a:Act} {w:World} {s:SV},j.s id=ZA s->TbAt U j w s r->(V.one (.ep id 1 e 0)).den U j=ZA (a.eval x)->∃p,PtIs j r.ks row p/\(execOp a.eval o).run P w=.ok (.value (.pointer p)) w:=by intro j a w s hs Ir hd;obtain⟨g,ps,ty,a1,a2,a3,a4⟩:=Ir;obtain⟨q,hq,he⟩:=xj hs hd;rw[a1]at hq;cases hq;have hp:=AH (show(e.I U).toNat<ps.length by omega);refine⟨_,a4 _ _ _ AV hp,?_⟩;have hc:=aaf a2 hp;rw[uH,Nat.mul_one,ZS]at he;simp[execOp,Ad,he,Instr.loadAt,YY,ZI,loadVar,ht.agg,Bu,load,Sem.run,hc]
  split at h2
  .rename_i h0;rw[cL]at h0;refine⟨_,Dy,h2,g2,l2.trans l1,fun j a w hbs Av By Cb BS Ev K Q hK=> ?_⟩;obtain⟨s,hs,Al,Ir,hz⟩:=BS.tb id (by simp) r hr;obtain⟨p,hp,Cv⟩:=cell hs Ir (Av x Or _ hx);cases p with
   |none=>rw[show row.getD 0 0=0 from hp]at h0;cases h0
   |some q=>
     obtain⟨_,⟨b,f,rfl⟩,vs,ty,z1,z2⟩:=hp;have De:=Al.rows.row row (fD AV);rw[CH]at De z2;have Ha:av ks (row.drop 1)=ZB:=nv 1 De;have hL:=am4 Cw ks 1 Ha;have hh:=hz _ _ z1;have hR:(E.lq .ln (EC (Ga r.l e) (G6 r.l e) 1 ks)).R U=[row.drop 1]:=by simp[E.R,hL]
     have FZ:flat ks [row.drop 1]=Bi ks (row.drop 1):=by simp[flat]
     refine dT (w':=w) Cv (hK _ (j.putS vw.nid ⟨ZA ⟨b,f,ZE⟩,1,1,[]⟩) w ?_ ⟨rfl,⟨ZA ⟨b,f,ZE⟩,1,1,[]⟩,SlOk.row ⟨by rw[hR];rfl,⟨fun q hq=> ?_,by rw[hR];simp[maxLen]⟩,Eo,fun k hk=> ?_,fun ho=>(by cases ho),?_⟩ rfl,fun k hk=> ?_,rfl,rfl,fun e=>(by cases e)⟩)
     .simp[V.den,C.den,J.putS,SV.elem,E.I,bo]
     .rw[hR,dv]at hq;rw[hq];exact Ha
     .have hk:=aA hk;simp only[SV.v,Value.ownBlock,bv]at hk;subst hk;exact(hG.1 hh).1
     .show RdRow w ks.length _ (flat ks ((E.lq .ln (EC (Ga r.l e) (G6 r.l e) 1 ks)).R U));rw[hR,FZ];refine⟨by rw[dn Ha];simp,ZK _,by simp[maxLen],fun h=>Xo,fun ad OB m u hm=> ?_⟩;cases OB;rw[bo];have e1:(Bi (ZE::ks) row)[m+1]? =ZA u:=by
       have:=pO (ks:=ZE::ks) 1 m De;rw[Nat.add_comm,this];exact hm
      have e2:=z2 m u e1;simp only at e2 hh;simp[World.cell?,hh,e2]
     .have hk:=aA hk;simp only[SV.v,Value.ownBlock,bv]at hk;subst hk;exact⟨_,z1,rfl⟩
  .rename_i h0;refine⟨_,Dy,h2,g2,l2.trans l1,OpOk.pure fun j a w _ Av _ BS _=> ?_⟩;obtain⟨s,hs,Al,Ir,hz⟩:=BS.tb id (by simp) r hr;obtain⟨p,hp,Cv⟩:=cell hs Ir (Av x Or _ hx);cases p with
   |none=>exact⟨_,rfl,Cv⟩
   |some q=>exact absurd (by rw[hp.1];rfl) h0
 .exact h1.elim
def vj(hT:∀t i,(t,i)∈cx.ty->TIok P t i)(Ad:o.op=.store t x y){id Lr fo:Nat}(hx:vw.ev x=ZA (.one (.ep id 1 e 0)))(hy:vw.ev y=ZA (.one (.ep Lr q.ks.length (.p 0) fo)))(hi:am t cx.ty=ZA i)(MI:i.size=1)(hr:vw.tabw id=ZA r)(CH:r.ks=ZE::ks)(hq:vw.sw Lr=ZA q)(AK:q.own=ZB)(Uf:q.ks.drop fo=ks)(h:(AL (GF e r.l) (fun ok kw=>if ok then AL (GF (.p 0) q.l) (fun ok kw=>if ok then k {val:=.one .undef,rr:=[Lr,id],re:=.tset Lr {q with own:=ZC} id {r with l:=.lput r.l e (.j (.tt ZB) (EC q.l (.p 0) fo ks))}} kw else .stuck 271) kw else .stuck 272) kw).holds sp G U I)(hg:Good sp cx.sm U kw):Sound P sp U G I base cx vw o k kw:=by
 obtain⟨Ch,h1,g1,_,l1⟩:=aS _ _ _ h hg;rw[wY]at h1;have ht:=hT _ _ (ab hi);split at h1
 .rename_i hb;simp only[ne,aB]at hb;obtain⟨Dy,h2,g2,_,l2⟩:=aS _ _ _ h1 g1;rw[wY]at h2;split at h2
  .rename_i Jq;simp only[ne,aB,E.I]at Jq;refine⟨_,Dy,h2,g2,l2.trans l1,fun j a w hbs Av By Cb BS Ev K Q hK=> ?_⟩;obtain⟨st,EF,Al,Ir,hz⟩:=BS.tb id (by simp) r hr;obtain⟨s,hs,Oh⟩:=BS.sl Lr (by simp) q hq;obtain⟨g,ps,ty,a1,a2,a3,a4⟩:=Ir;obtain⟨pa,VG,he⟩:=xj EF (Av x Or _ hx);rw[a1]at VG;cases VG;rw[uH,Nat.mul_one,ZS]at he;obtain⟨pb,QN,hv⟩:=xj hs (Av y Or _ hy);have QW:=Oh.own AK;obtain⟨kb,Hp,cur,b1,b2,b3,b4⟩:∃kb Hp cur,s.v=.slice (ZA ⟨kb,0,ZE⟩) s.n Hp/\w.heap[kb]? =ZA (.cells cur q.ty (0,0))/\cur.toList.take (s.n*q.ks.length)=flat q.ks (q.l.R U)/\pb=⟨kb,0,ZE⟩:=by
    rcases QW.2 with⟨c1,c2⟩|⟨kb,Hp,cur,c1,_,c2,_,_,_,c3⟩
    .simp only[SV.v,QN]at c1;cases c1
    .refine⟨kb,Hp,cur,c1,c2,c3,?_⟩;simp only[SV.v,QN,Value.slice.injEq,bv]at c1;exact c1.1
   subst b4;have hvv:a.eval y=.pointer (ZA ⟨kb,fo,ZE⟩):=by rw[hv,uH];simp[E.I]
   have h0:0<(q.l.R U).length:=by have hh:=Jq.2;exact Int.ofNat_lt.1 (Ah hh)
   have Gv:=AH h0;obtain⟨row,EY⟩:∃row,row=(q.l.R U)[0]:=⟨_,rfl⟩
   rw[<-EY]at Gv;have De:=Oh.rows.row row (fD Gv);have Ha:=nv fo De;rw[Uf]at Ha;have hL:=am4 (U:=U) (e:=.p 0) Gv ks fo Ha;have As:(e.I U).toNat<ps.length:=Fn;have BB:=aaf a2 (AH As);have J8:w.frozen? ⟨g,(e.I U).toNat,ZE⟩=ZC:=by simp[World.frozen?,a2]
   have Ks:=heap_setCell_same w g (e.I U).toNat (ps.map Value.pointer).toArray ty (.pointer (ZA ⟨kb,fo,ZE⟩)) a2;have Ng:((ps.map Value.pointer).toArray.setIfInBounds (e.I U).toNat (.pointer (ZA ⟨kb,fo,ZE⟩)))=((ps.set (e.I U).toNat (ZA ⟨kb,fo,ZE⟩)).map Value.pointer).toArray:=by simp[List.map_set]
   rw[Ng]at Ks;have hR:(E.lput r.l e (.j (.tt ZB) (EC q.l (.p 0) fo ks))).R U=(r.l.R U).set (e.I U).toNat (1::row.drop fo):=by simp only[E.R,E.L,hL,E.B];rfl
   have KT:av (ZE::ks) (1::row.drop fo)=ZB:=by simp[av,Dn,Ha]
   have hst2:st.v.ownBlock=ZA g:=by simp[SV.v,a1,Value.ownBlock]
   refine uL (w':=w.setCell ⟨g,(e.I U).toNat,ZE⟩ (.pointer (ZA ⟨kb,fo,ZE⟩))) ?_ (hK _ (j.addz [(kb,.cells cur q.ty (0,0))]) _ rfl ⟨s,st,kb,.cells cur q.ty (0,0),hs,EF,Oh.shut.row (Vw.sw_some hq).2,HdOk.row ⟨Al.own,⟨fun z MH=> ?_,?_⟩,Al.c,g,_,a1,?_,Ks,?_⟩ (by rw[show r.kd=.tab from(Vw.tabw_some hr).2];rfl),by rw[b1];rfl,b2,rfl,?_,rfl,⟨g,ps.set (e.I U).toNat (ZA ⟨kb,fo,ZE⟩),ty,a1,Ks,?_,fun m EU p hm hp=> ?_⟩,fun e=>by rw[show q.kd=.sl from(Vw.sw_some hq).2]at e;cases e⟩)
   .have hst1:(storeCells ⟨g,(e.I U).toNat,ZE⟩ [Value.pointer (ZA ⟨kb,fo,ZE⟩)] 0).run P w=.ok () (w.setCell ⟨g,(e.I U).toNat,ZE⟩ (.pointer (ZA ⟨kb,fo,ZE⟩))):=by
     have IY:(Value.pointer (ZA ⟨kb,fo,ZE⟩)).oneCell'=ZB:=rfl;simp only[storeCells,bo,ZS,ZI,run_store P w _ _ _ IY,BB,J8,Result.andThen_ok,Bool.false_eq_true,if_false,Sem.run_pure]
    have CT:(Value.pointer (ZA ⟨kb,fo,ZE⟩)).cells = #[Value.pointer (ZA ⟨kb,fo,ZE⟩)]:=rfl;simp[execOp,Ad,he,hvv,Instr.storeAt,YY,ZI,storeVar,ht.size,MI,CT,hst1]
   .have MH:z∈(E.lput r.l e (.j (.tt ZB) (EC q.l (.p 0) fo ks))).R U:=MH;rw[hR]at MH;rcases List.mem_or_eq_of_mem_set MH with h'|h'
    .exact Al.rows.row z h'
    .show av r.ks z=ZB;rw[CH,h'];exact KT
   .show((E.lput r.l e (.j (.tt ZB) (EC q.l (.p 0) fo ks))).R U).length<=maxLen;rw[hR,List.length_set];exact Al.rows.len
   .obtain⟨g',o',c1,c2,_⟩:=Al.at';rw[a1]at c1;cases c1;exact c2
   .show Ln U st {r with l:=_} _;unfold Ln;simp only[(Vw.tabw_some hr).2];exact⟨_,_,rfl⟩
   .rw[hst2];exact⟨rfl,rfl,rfl,by simp[World.setCell],fun k _ hk=>heap_setCell_other w _ k _ (fun e=>hk (by rw[e]))⟩
   .show _=((E.lput r.l e (.j (.tt ZB) (EC q.l (.p 0) fo ks))).R U).length;rw[hR,List.length_set,List.length_set,a3]
   .have hm:((E.lput r.l e (.j (.tt ZB) (EC q.l (.p 0) fo ks))).R U)[m]? =ZA EU:=hm;have hzk:(j.addz [(kb,.cells cur q.ty (0,0))]).g.z kb=ZA (.cells cur q.ty (0,0)):=by simp[J.addz,J.setz,Gh.setz]
    have Lg:∀k o,Cg o=ZB->j.g.z k=ZA o->(j.addz [(kb,.cells cur q.ty (0,0))]).g.z k=ZA o:=fun k o _ hko=>by
     by_cases HS:k=kb
     .have:=hz k o hko;rw[HS,b2]at this;cases this;rw[HS];exact hzk
     .simp[J.addz,J.setz,Gh.setz,HS,hko]
    rw[hR]at hm;show PtIs _ r.ks EU p;by_cases PZ:(e.I U).toNat=m
    .rw[<-PZ,List.getElem?_set_self Fn]at hm;rw[<-PZ,List.getElem?_set_self As]at hp;cases hm;cases hp;refine⟨rfl,⟨kb,fo,rfl⟩,cur,q.ty,hzk,fun c v hc=> ?_⟩;rw[CH]at hc;have hc:(Bi ks (row.drop fo))[c]? =ZA v:=hc;have hd:=pO fo c De;rw[Uf]at hd;rw[<-hd]at hc;have FZ:(flat q.ks (q.l.R U))[fo+c]? =ZA v:=by
      obtain⟨L',hL'⟩:∃L',q.l.R U=row::L':=by
       cases hqq:q.l.R U with
       |nil=>rw[hqq]at h0;simp at h0
       |cons z L'=>rw[hqq]at Gv;simp at Gv;exact⟨L',by rw[Gv]⟩
      rw[hL',cH,A9 (cZ.1 hc).1];exact hc
     rw[<-b3,List.getElem?_take]at FZ;split at FZ
     .simpa using FZ
     .cases FZ
    .rw[pp PZ]at hm hp;exact(a4 m EU p hm hp).mono Lg
  .exact h2.elim
 .exact h1.elim
def yg(hT:∀t i,(t,i)∈cx.ty->TIok P t i)(Ad:o.op=.store t x y){id:Nat}(hx:vw.ev x=ZA (.one (.ep id r.ks.length (.p 0) off))){v:V}(hy:vw.ev y=ZA v)(hi:am t cx.ty=ZA i)(hr:vw.sw id=ZA r)(Ld:r.own=ZB)(hf:v.flat=ZB)(hn:v.cells.length=i.size)(OK:off+i.size<=r.ks.length){row EU:E}(hl:r.l=.lq .ln row)(hrg:Ft kw.vk v.cells kw.vk 0=ZB)(hsp:yD off r.ks row v.cells=ZA EU)(h:(k {val:=.one .undef,rr:=[id],re:=.set id {r with l:=.lq .ln EU}} kw).holds sp G U I)(hg:Good sp cx.sm U kw):Sound P sp U G I base cx vw o k kw:=by
 have ht:=hT _ _ (ab hi);obtain⟨l',Ve,OX⟩:=tK (U:=U) off v.cells r.ks row EU (.lq .ln row) [] (rngs_ok _ kw.vk 0 rfl hrg) hsp (by simp[E.R]);simp only[List.length_nil,bJ,ZQ]at Ve OX;have hR':(E.lq .ln EU).R U=l'.R U:=by rw[OX];simp[E.R]
 refine⟨_,kw,h,hg,.refl _,fun j a w _ Av By Cb BS Ev K Q hK=> ?_⟩;obtain⟨s,hs,Al⟩:=BS.sl id (by simp) r hr;obtain⟨p,hp,he⟩:=xj hs (Av x Or _ hx);have hd:=V.cells_ok (Av y Or v hy) hf;have AK:=Al.own Ld;obtain⟨g,rfl,Ku⟩:=abj AK hp;rw[Ku]at AK;have AY:=Al.rows;rw[hl]at AK AY;obtain⟨w',h2,h3,h4,h5,h6⟩:=jO (P:=P) hg.vk (r.ks.drop off) v.cells (.lq .ln row) l' off 0 _ w ((⟨g,0,ZE⟩:Addr).add (((E.p 0).I U).toNat*r.ks.length+off)) Ve hd r.ks (fun m=>by rw[List.getElem?_drop]) AY (by simp[E.I,E.R]) AK
  (fun m=>by rw[bU,bo];congr 1;omega)
 have BT:(a.eval y).cells.size=i.size:=by have:=aR hd;rw[Array.length_toList,hn]at this;exact this
 have V5:s.n=1:=by rw[Al.n,hl];simp[E.R]
 refine uL (w':=w') ?_ (hK _ j w' rfl ⟨rfl,s,hs,?_,RowOk.mk_own (r:={r with l:=.lq .ln EU}) (Vw.sw_some hr).2 (by rw[V5];simp[E.R]) (by rw[hR'];exact h5) Al.pos (by rw[Ku];simp only;rw[hR'];exact h3),fun e=>by rw[show r.kd=.sl from(Vw.sw_some hr).2]at e;cases e⟩)
 .simp[execOp,Ad,he,Instr.storeAt,YY,ZI,storeVar,ht.size,BT,h2]
 .rw[Ku];exact h4
def ae9(hT:∀t i,(t,i)∈cx.ty->TIok P t i)(Ad:o.op=.call c)(hc:c.callee=.builtin .clear){l0 l1:Nat}{mx:E}(hl:Ey vw.ev c.args.toList=ZA [.one (.aw b off n sz (.p l0) (.p l1) mx)])(C5:c.argTypes.toList=[t])(hi:am t cx.ty=ZA i)(ha:i.sle=ZA et)(BE:am et cx.ty=ZA ie)(BT:ie.size=sz)(As:l0<l1)(OG:(mx.I U).toNat≠l0)(Eb:((ZM (l1-l0) ie.zero).flatten).all C.solid=ZB)(h:(k {val:=.tup [],wr:=eG b (off+l0*sz) ((ZM (l1-l0) ie.zero).flatten)} kw).holds sp G U I)(hg:Good sp cx.sm U kw):Sound P sp U G I base cx vw o k kw:=by
 refine⟨_,kw,h,hg,.refl _,fun j a w _ Av By Cb _ _ K Q hK=> ?_⟩;obtain⟨h1,h2⟩:=jg (j:=j) (a:=a) hl (fun x hx=>Av x Xp);obtain⟨u,hu1,SP⟩:∃u,c.args.toList.map a.eval=[u]/\(V.one (.aw b off n sz (.p l0) (.p l1) mx)).den U j=ZA u:=by
  match hm:c.args.toList.map a.eval,h2 with
  |[u],_=>exact⟨u,rfl,h1 0 _ u rfl (by rw[hm];rfl)⟩
 have B6:c.args.map a.eval = #[u]:=by rw[<-Array.toArray_toList (xs:=c.args.map a.eval),Array.toList_map,hu1]
 have Dx:c.argTypes = #[t]:=Xu;have hu:=(hT _ _ (ab hi)).sle et ha;obtain⟨z,hz,I7⟩:=(hT _ _ (ab BE)).zero;obtain⟨CL,z',C4,CC,_,MH,Ib,_⟩:=(hT _ _ (ab BE)).info;simp only[V.den,C.den,Ay]at SP;obtain⟨kk,hk,rfl⟩:=SP;have hzc:z.cells.size=sz:=by
  have e1:=aR (I7 U j);have e2:(zeroValue et).run P w=.ok z' w:=by simp[zeroValue,typeInfo,C4,MH,ZI]
  rw[hz w]at e2;cases e2;rw[Array.length_toList]at Ib;rw[Ib,BT]
 have KY:Af U j ((ZM (l1-l0) ie.zero).flatten)=ZA (Builtin.zeroCells z.cells (l1-l0)).toList:=by
  have e1:(Builtin.zeroCells z.cells (l1-l0)).toList=(ZM (l1-l0) z.cells.toList).flatten:=oH z.cells (l1-l0);rw[e1];generalize l1-l0=m
  induction m with
  |zero=>rfl
  |succ m ih=>simp only[List.replicate_succ,List.flatten_cons];exact gr (I7 U j) ih
 obtain⟨w',R4,Ks⟩:=dC (P:=P) hk ⟨kk,off+l0*sz,ZE⟩ ((ZM (l1-l0) ie.zero).flatten) (off+l0*sz) 0 _ w (fun m=>by rw[bJ,bo]) KY Eb Cb;refine dT (w':=w') (v:=.tuple #[]) ?_ (hK _ j w' rfl ⟨rfl,w,.refl w,R4⟩);have Iy:((⟨ZA ⟨kk,off,ZE⟩,n,n,[]⟩:SV).cut sz ((E.p (l0:Int)).I U).toNat ((E.p (l1:Int)).I U).toNat (mx.I U).toNat).v=.slice (ZA ⟨kk,off+l0*sz,ZE⟩) (l1-l0) ((mx.I U).toNat-l0):=by have e5:((E.p (l0:Int)).I U).toNat=l0:=cS l0;have e6:((E.p (l1:Int)).I U).toNat=l1:=cS l1;rw[e5,e6];simp only[SV.cut,SV.v];rw[if_neg OG];simp only[YU,bo]
 rw[Iy]at B6;obtain⟨m,hm⟩:∃m,l1-l0=m+1:=⟨l1-l0-1,by omega⟩
 rw[hm]at B6 Ks;simp only[execOp,Ad,resolve,hc,B6,Dx,ZI,Sem.run_pure,Result.andThen_ok,invoke,builtin];simp[Builtin.clear_,run_underlying hu,hz,Ks,ZI]
def opT(cx:Cx)(vw:Vw)(op:Op)(kw:Kw)(k:Eff->Kw->Tr):Option Tr:=match op with
 |.alloc t=>match am t cx.ty with
   |some i=>if yX cx t then(match JJ i.zero with
    |some ks=>match Gc kw.vk ks i.zero with
      |some r=>if decide (0<ks.length)then ZA (k {val:=.one (.ep vw.nid ks.length (.p 0) 0),re:=.mk [⟨ks,t,.lq .ln r,ZB,.sl⟩]} kw)else ZE
      |none=>ZE
    | none=>ZE)
     else if ahQ cx t then(match i.zero with
      |.int kd _::_=>if i.zero.all (C.isZk kd)&&decide (i.zero.length<=65536)then ZA (k {val:=.one (.ep vw.nid 1 (.p 0) 0),re:=.mk [⟨[ZA kd],t,.lrep (.p i.zero.length) (.cons (.p 0) .nil),ZB,.sl⟩]} kw)else ZE
      |_=>ZE)
     else match aoN cx with
      |some (t',ks,st)=>if ZJ t t'&&(i.zero.all C.isNilp&&decide (i.zero.length<=65536))then ZA (k {val:=.one (.ep vw.nid 1 (.p 0) 0),re:=.mk [⟨ZE::ks,st,.lrep (.p i.zero.length) (sF (ZE::ks)),ZB,.tab⟩]} kw)else ZE
      |none=>ZE
   |none=>ZE
 |.box t x=>match vw.ev x with
   |some v=>if yX cx t&&v.flat then(match JJ v.cells with
    |some ks=>match Gc kw.vk ks v.cells with
      |some r=>if decide (0<ks.length)then ZA (k {val:=.one (.ep vw.nid ks.length (.p 0) 0),re:=.mk [⟨ks,t,.lq .ln r,ZB,.sl⟩]} kw)else ZE
      |none=>ZE
    |none=>ZE)else ZE
   |none=>ZE
 |.indexAddr t x y=>match vw.ev x,vw.ev y,am t cx.ty with
   |some (.one (.ep id BC (.p z) off)),ZA (.one (.int _ e)),ZA i=>match i.arr with
     |some (n,et)=>match am et cx.ty with
       |some ie=>if((vw.tabw id).isSome||ahQ cx t)&&ZJ BC 1&&(ZJ off 0&&(fC z 0&&ZJ ie.size 1))then ZA (AL (Kk e n) (fun ok kw=>if ok then k {val:=.one (.ep id 1 e 0)} kw else .panic) kw)else ZE
       |none=>ZE
     |_=>ZE
   |_,_,_=>ZE
 |.load t x=>match vw.ev x,am t cx.ty with
   |some (.one (.ep id BC e off)),ZA i=>match vw.tabw id with
     |some r=>match r.ks with
       |none::ks=>if ZJ BC 1&&(ZJ off 0&&(!i.agg&&decide (0<ks.length)))then
        ZA (AL (GF e r.l) (fun ok kw=>if ok then AL (qg (Ga r.l e) (G6 r.l e) 0) (fun b kw=>if b then k {val:=.one (.ep vw.nid ks.length (.p 0) 0),rr:=[id],re:=.peek ⟨ks,r.ty,.lq .ln (EC (Ga r.l e) (G6 r.l e) 1 ks),ZC,.sl⟩} kw else k {val:=.one .np,rr:=[id]} kw) kw else .stuck 270) kw)else ZE
       |_=>ZE
     |none=>ZE
   |_,_=>ZE
 |.store t x y=>match vw.ev x,vw.ev y,am t cx.ty with
   |some (.one (.ep id BC e off)),ZA v,ZA i=>match vw.tabw id with
     |some r=>match v,r.ks with
       |.one (.ep Lr sz (.p z) fo),ZE::ks=>match vw.sw Lr with
         |some q=>if(ZJ BC 1&&(ZJ off 0&&(fC z 0&&(ZJ i.size 1&&ZJ sz q.ks.length))))&&(q.own&&dc (q.ks.drop fo) ks)then
          ZA (AL (GF e r.l) (fun ok kw=>if ok then AL (GF (.p 0) q.l) (fun ok kw=>if ok then k {val:=.one .undef,rr:=[Lr,id],re:=.tset Lr {q with own:=ZC} id {r with l:=.lput r.l e (.j (.tt ZB) (EC q.l (.p 0) fo ks))}} kw else .stuck 271) kw else .stuck 272) kw)else ZE
         |none=>ZE
       |_,_=>ZE
     |none=>match e,vw.sw id with
       |.p z,ZA r=>match r.l with
         |.lq .ln row=>if(yX cx r.ty&&(fC z 0&&(ZJ BC r.ks.length&&r.own)))&&(v.flat&&(ZJ v.cells.length i.size&&(decide (off+i.size<=BC)&&Ft kw.vk v.cells kw.vk 0)))then
          (match yD off r.ks row v.cells with
          |some EU=>ZA (k {val:=.one .undef,rr:=[id],re:=.set id {r with l:=.lq .ln EU}} kw)
          |none=>ZE)else ZE
         |_=>ZE
       |_,_=>ZE
   |_,_,_=>ZE
 |.call c=>match c.callee with
   |.builtin .clear=>match Ey vw.ev c.args.toList,c.argTypes.toList with
     |some [.one (.aw b off n sz (.p (.ofNat l0)) (.p (.ofNat l1)) (.p (.ofNat l2)))],[t]=>match am t cx.ty with
       |some i=>match i.sle with
         |some et=>match am et cx.ty with
           |some ie=>if ZJ ie.size sz&&(decide (l0<l1)&&(decide (l0<l2)&&((ZM (l1-l0) ie.zero).flatten).all C.solid))then
            ZA (k {val:=.tup [],wr:=eG b (off+l0*sz) ((ZM (l1-l0) ie.zero).flatten)} kw)else ZE
           |none=>ZE
         |none=>ZE
       |none=>ZE
     |_,_=>ZE
   |_=>ZE
 |_=>ZE
def asd(hT:∀t i,(t,i)∈cx.ty->TIok P t i)(ht:opT cx vw o.op kw k=ZA tr)(h:tr.holds sp G U I)(hg:Good sp cx.sm U kw):Sound P sp U G I base cx vw o k kw:=by
 cases Ad:o.op<;>rw[Ad]at ht<;>simp only[opT]at ht
 case alloc t=>
  split at ht
  .rename_i i hi;split at ht
   .split at ht
    .rename_i ks hk;split at ht
     .rename_i r hr;split at ht
      next hp=>cases ht;exact vy hT Ad hi hr (Ah hp) h hg
      .exact Xr
     .exact Xr
    .exact Xr
   .split at ht
    .split at ht
     .rename_i kd _ _ _;split at ht
      next hp=>simp only[ne,aB]at hp;cases ht;exact vz hT Ad hi hp.1 hp.2 h hg
      .exact Xr
     .exact Xr
    .split at ht
     .rename_i t' ks st _;split at ht
      next hp=>simp only[ne,aB]at hp;cases ht;exact vx hT Ad hi ks st hp.2.1 hp.2.2 h hg
      .exact Xr
     .exact Xr
  .exact Xr
 case box t x=>
  split at ht
  .rename_i v hv;split at ht
   .rename_i hf;rw[ne]at hf;split at ht
    .rename_i ks hk;split at ht
     .rename_i r hr;split at ht
      next hp=>cases ht;exact acD Ad hv hf.2 hr (Ah hp) h hg
      .exact Xr
     .exact Xr
    .exact Xr
   .exact Xr
  .exact Xr
 case indexAddr t x y=>
  split at ht
  .rename_i id BC z off k0 e i hx hy hi;split at ht
   .rename_i n et ha;split at ht
    .rename_i ie BE;split at ht
     next hp=>simp only[ne]at hp;obtain⟨⟨_,p1⟩,p2,p3,p4⟩:=hp;have p1:=Ak p1;have p2:=Ak p2;have p3:=cR p3;subst p1 p2 p3;cases ht;exact vl hT Ad hx hy hi ha BE (Ak p4) h hg
     .exact Xr
    .exact Xr
   .exact Xr
  .exact Xr
 case load t x=>
  split at ht
  .rename_i id BC e off i hx hi;split at ht
   .rename_i r hr;split at ht
    .rename_i ks CH;split at ht
     next hp=>simp only[ne,aB,ZP]at hp;obtain⟨p1,p2,p3,p4⟩:=hp;have p1:=Ak p1;have p2:=Ak p2;subst p1 p2;cases ht;exact yf hT Ad hx hi p3 hr CH p4 h hg
     .exact Xr
    .exact Xr
   .exact Xr
  .exact Xr
 case store t x y=>
  split at ht
  .rename_i id BC e off v i hx hy hi;split at ht
   .rename_i r hr;split at ht
    .rename_i Lr sz z fo ks CH;split at ht
     .rename_i q hq;split at ht
      next hp=>simp only[ne]at hp;obtain⟨⟨p1,p2,p3,p4,p5⟩,p6,p7⟩:=hp;have p1:=Ak p1;have p2:=Ak p2;have p3:=cR p3;have p5:=Ak p5;subst p1 p2 p3 p5;cases ht;exact vj hT Ad hx hy hi (Ak p4) hr CH hq p6 (cJ p7) h hg
      .exact Xr
     .exact Xr
    .exact Xr
   .split at ht
    .rename_i z r hr;split at ht
     .rename_i row hl;split at ht
      .rename_i hp;simp only[ne,aB]at hp;obtain⟨⟨p1,p2,p3,p4⟩,p5,p6,p7,p8⟩:=hp;have p2:=cR p2;have p3:=Ak p3;subst p2 p3;split at ht
       next EU hsp=>cases ht;exact yg hT Ad hx hy hi hr p4 p5 (Ak p6) p7 hl p8 hsp h hg
       .exact Xr
      .exact Xr
     .exact Xr
    .exact Xr
  .exact Xr
 case call c=>
  split at ht
  .rename_i hc;split at ht
   .rename_i b off n sz l0 l1 l2 t hl C5;split at ht
    .rename_i i hi;split at ht
     .rename_i et ha;split at ht
      .rename_i ie BE;split at ht
       next hp=>simp only[ne,aB]at hp;obtain⟨p1,p2,p3,p4⟩:=hp;cases ht;exact ae9 hT Ad hc hl C5 hi ha BE (Ak p1) p2 (by show(Int.ofNat l2).toNat≠l0;simp;omega) p4 h hg
       .exact Xr
      .exact Xr
     .exact Xr
    .exact Xr
   .exact Xr
  .exact Xr
 all_goals cases ht
def Lh(cx:Cx)(vw:Vw)(op:Op)(kw:Kw)(k:Eff->Kw->Tr):Tr:=match opT cx vw op kw k with
 |some t=>t
 |none=>NC cx vw op kw k
def apG(hT:∀t i,(t,i)∈cx.ty->TIok P t i)(hS:∀s∈cx.sm,SmOk P sp s)(AR:∀s∈cx.sm,∀s'∈cx.sm,s.key=s'.key->s=s')(h:(Lh cx vw o.op kw k).holds sp G U I)(hg:Good sp cx.sm U kw):Sound P sp U G I base cx vw o k kw:=by
 unfold Lh at h;split at h
 next t ht=>exact asd hT ht h hg
 .exact apF hT hS AR h hg
end
end Go.Proofs.YtgolejfhoefeaaaGreatDoor
