import Derived.Test.YtgolejfhoefeaaaGreatDoorAaZ
import Derived.Sort.Row
import Derived.Laws.CopyRow
import Derived.Laws.BytesString
set_option maxRecDepth 100000
set_option maxHeartbeats 8000000
set_option linter.defProp false
set_option linter.unusedVariables false
set_option linter.unusedSimpArgs false
namespace Go.Proofs.YtgolejfhoefeaaaGreatDoor
open Option renaming some->ZA,none->ZE,map_some->YR
open Bool renaming true->ZB,false->ZC,not_eq_true'->ZO
open Sem renaming run_bind->ZI
open Nat renaming beq->ZJ,le_refl->ZK,add_zero->ZR,add_assoc->ZU
open List renaming replicate->ZM,nil_append->YP,length_cons->YQ,mem_cons->YS,mem_append_right->ZV,all_cons->YX,mem_append->ZY,length_take->YZ,mem_append_left->ZZ
open Option.some renaming inj->ZN
open Go.Instr renaming sureAddr->ZW
open Go.RowKit
variable {kw:Kw}{t n et off b Bt sz h base nid g o0 m:Nat}{i ie:TI}{e l lo hi:E}{x y:Operand}{r q:RowOb}{j:J}{w w':World}{c:Call}{ks:List CE}{s u:SV}{vk:List VK}{U:Env}{k0 kd:IntKind}{v:Value}{xs:List Value}{ps:Array (Nat×Operand)}{A5:List (Nat×V)}{a:Act}{tr:Tr}
section
variable {P:Program}{sp:Spec}{U:Env}{G:Env->E->Prop}{I:Nat->List Dt->Prop}{base:Nat}{cx:Cx}{vw:Vw}{o:Oper}{k:Eff->Kw->Tr}
def uc{e:E}{n:Nat}{kk:Nat->Kw->Tr}:∀(m:Nat) (kw:Kw),m<=n->(ud e n kk m kw).holds sp G U I->Good sp cx.sm U kw->∃i An,i<n/\e.I U=(i:Int)/\(kk i An).holds sp G U I/\Good sp cx.sm U An/\KwGe An kw
 |0,kw,_,h,hg=>h.elim
 |m+1,kw,hm,h,hg=>by
   simp only[ud]at h;obtain⟨Cc,h1,g1,_,l1⟩:=aO _ _ _ h hg;rw[qq]at h1;split at h1
   .rename_i hb;have Ex:e.I U=((n-(m+1):Nat):Int):=by simpa[E.I]using hb
    exact⟨n-(m+1),Cc,by omega,Ex,h1,g1,l1⟩
   .obtain⟨i,Dq,h2,h3,h4,g2,l2⟩:=uc m Cc Fn h1 g1;exact⟨i,Dq,h2,h3,h4,g2,l2.trans l1⟩
def iN(hT:∀t i,(t,i)∈cx.ty->TIok P t i)(Ad:o.op=.indexAddr t x y){c:C}{c':Nat->C}(hx:vw.ev x=ZA (.one c))(hy:vw.ev y=ZA (.one (.int k0 e)))(hi:ap t cx.ty=ZA i)(ha:i.arr=ZA (n,et))(BA:ap et cx.ty=ZA ie)(hmv:∀m j v,c.den U j=ZA v->∃a,v=.pointer (ZA a)/\(c' m).den U j=ZA (.pointer (ZA (a.add (m*ie.size)))))(h:(ud e n (fun m kw=>k {val:=.one (c' m)} kw) n kw).holds sp G U I)(hg:Good sp cx.sm U kw):Sound P sp U G I base cx vw o k kw:=by
 obtain⟨m,An,hm,he,h1,g1,l1⟩:=uc n kw (ZK _) h hg;have hu:=(hT _ _ (af hi)).arr n et ha;have hs:=(hT _ _ (af BA)).size;refine⟨_,An,h1,g1,l1,OpOk.pure fun j a w _ Au _ _ _=> ?_⟩;obtain⟨p,hp,hd⟩:=hmv m j _ (Au x Or _ hx);have hq:=cF (Au y Or _ hy);refine⟨_,hd,?_⟩;have As:(0:Int)<=(m:Int)/\(m:Int)<(n:Int):=Fn;simp[execOp,Ad,hp,hq,he,Instr.indexAt,run_underlying hu,ZW,asIntOf,As,hs,ZI];omega
def afd(hT:∀t i,(t,i)∈cx.ty->TIok P t i)(Ad:o.op=.index t x y){cs:List C}(hx:vw.ev x=ZA (.agg cs))(hy:vw.ev y=ZA (.one (.int k0 e)))(hi:ap t cx.ty=ZA i)(ha:i.arr=ZA (n,et))(BA:ap et cx.ty=ZA ie)(h:(ud e n (fun m kw=>match PG cx et cs (m*ie.size)with|some v=>k {val:=v} kw|none=>.stuck 30) n kw).holds sp G U I)(hg:Good sp cx.sm U kw):Sound P sp U G I base cx vw o k kw:=by
 obtain⟨m,An,hm,he,h1,g1,l1⟩:=uc n kw (ZK _) h hg;have hu:=(hT _ _ (af hi)).arr n et ha;have hs:=(hT _ _ (af BA)).size;split at h1
 next v hv=>refine⟨_,An,h1,g1,l1,OpOk.pure fun j a w _ Au _ _ _=> ?_⟩;have hd:=Au x Or _ hx;simp only[V.den,Ay]at hd;obtain⟨vs,EN,hp⟩:=hd;have hq:=cF (Au y Or _ hy);obtain⟨u,JQ,hr⟩:=ag6 hT hv EN w;refine⟨u,JQ,?_⟩;have As:(0:Int)<=(m:Int)/\(m:Int)<(n:Int):=Fn;simp[execOp,Ad,<-hp,hq,he,Instr.index,run_underlying hu,asIntOf,As,hs,ZI,hr];omega
 .exact h1.elim
def xl(U:Env)(e l:E):(GS e l).B U=(decide (0<=e.I U)&&decide (e.I U<((l.R U).length:Int))):=by simp only[GS,dV,dn,dh,dF,E.I];rw[bI];rfl
def vE(hT:∀t i,(t,i)∈cx.ty->TIok P t i)(Ad:o.op=.indexAddr t x y){id:Nat}(hx:vw.ev x=ZA (.one (.sl id)))(hy:vw.ev y=ZA (.one (.int k0 e)))(hi:ap t cx.ty=ZA i)(ha:i.sle=ZA et)(BA:ap et cx.ty=ZA ie)(hr:vw.sw id=ZA r)(Cq:r.ks.length=ie.size)(h:(AK (GS e r.l) (fun b kw=>if b then k {val:=.one (.ep id ie.size e 0),rr:=[id]} kw else .panic) kw).holds sp G U I)(hg:Good sp cx.sm U kw):Sound P sp U G I base cx vw o k kw:=by
 obtain⟨An,h1,g1,_,l1⟩:=aO _ _ _ h hg;rw[xl]at h1;split at h1
 .rename_i hb;simp only[ne,aE]at hb;refine⟨_,An,h1,g1,l1,OpOk.pure fun j a w _ Au _ BQ _=> ?_⟩;obtain⟨s,hs,Aj⟩:=BQ.sl id (by simp) r hr;have hd:=Au x Or _ hx;simp only[V.den,C.den,hs,YR,bo]at hd;have hq:=cF (Au y Or _ hy);have hu:=(hT _ _ (af hi)).sle et ha;have BR:=(hT _ _ (af BA)).size;obtain⟨sa,sn,sc,sz⟩:=s;have hn:=Aj.n;simp only at hn;have By:=Aj.rd;cases sa with
  |none=>have:=(By.2.2.2.1 rfl).1;simp only at this;omega
  |some p=>refine⟨.pointer (ZA (p.add ((e.I U).toNat*ie.size+0))),by simp[V.den,C.den,hs,SV.elem],?_⟩;have As:(0:Int)<=e.I U/\e.I U<(sn:Int):=Fn;simp[execOp,Ad,<-hd,SV.v,hq,Instr.indexAt,run_underlying hu,asIntOf,As,BR,ZI]
 .exact h1.elim
def gP{a:Addr}{w:World}:∀(vs:List Value) (i:Nat) (Lr:Array Value),(∀m u,vs[m]? =ZA u->w.cell? (a.add (i+m))=ZA u)->(loadCellsFrom a i vs.length Lr).run P w=.ok (Lr++vs.toArray) w
 |[],i,Lr,_=>by simp[loadCellsFrom]
 |v::vs,i,Lr,h=>by have h0:=h 0 v rfl;simp only[ZR]at h0;simp only[YQ,loadCellsFrom,ZI,load,Sem.run,h0,Result.andThen_ok];rw[gP vs (i+1) _ (fun m u hu=>by rw[ZU,Nat.add_comm 1 m];exact h (m+1) u X2)];simp
def lQ{j:J}:∀{cs:List C} {vs:List Value},cs.length=vs.length->(∀(m:Nat) c,cs[m]? =ZA c->∃u,vs[m]? =ZA u/\c.den U j=ZA u)->Af U j cs=ZA vs
 |[],vs,hl,_=>by
   cases vs with
   |nil=>rfl
   |cons=>cases hl
 |c::cs,vs,hl,h=>by
   cases vs with
   |nil=>cases hl
   |cons v vs=>obtain⟨u,hu,hd⟩:=h 0 c rfl;simp only[cD,bo]at hu;subst hu;have:=lQ (cs:=cs) (vs:=vs) Yf (fun m c hm=>by simpa using h (m+1) c XT);simp[Af,hd,this]
def jW{ld:Nat->Nat->Option C}{b:Nat}:∀(n o:Nat) (cs:List C),jX ld b o n=ZA cs->cs.length=n/\∀m c,cs[m]? =ZA c->ld b (o+m)=ZA c
 |0,o,cs,h=>by cases h;exact⟨rfl,fun m c hm=>by simp at hm⟩
 |n+1,o,cs,h=>by
   simp only[jX]at h;cases hc:ld b o with
   |none=>rw[hc]at h;cases h
   |some c=>
     cases hl:jX ld b (o+1) n with
     |none=>rw[hc,hl]at h;cases h
     |some l=>
       rw[hc,hl]at h;cases h;obtain⟨h1,h2⟩:=jW n (o+1) l hl;refine⟨by simp[h1],fun m c' hm=> ?_⟩;cases m with
       |zero=>simp at hm;subst hm;exact hc
       |succ m=>rw[show o+(m+1)=o+1+m by omega];exact h2 m c' XT
def QL(h:(V.one (.fp b off)).den U j=ZA v):∃kk,j.f b=ZA kk/\v=.pointer (ZA ⟨kk,off,ZE⟩):=by simp only[V.den,C.den,Ay]at h;obtain⟨kk,hk,rfl⟩:=h;exact⟨kk,hk,rfl⟩
def tG(hT:∀t i,(t,i)∈cx.ty->TIok P t i)(Ad:o.op=.load t x)(hx:vw.ev x=ZA (.one (.fp b off)))(hi:ap t cx.ty=ZA i)(Bu:i.agg=ZB){cs:List C}(CS:jX (fun b o=>(vw.fb b).bind (·[o]?)) b off i.size=ZA cs)(Ek:cs.all C.solid=ZB)(h:(k {val:=.agg cs} kw).holds sp G U I)(hg:Good sp cx.sm U kw):Sound P sp U G I base cx vw o k kw:=by
 refine⟨_,kw,h,hg,.refl _,OpOk.pure fun j a w _ Au _ _ Ef=> ?_⟩;have ht:=hT _ _ (af hi);obtain⟨kk,hk,he⟩:=QL (Au x Or _ hx);obtain⟨AZ,Cw⟩:=jW _ _ _ CS;by_cases h0:i.size=0
 .have Eh:cs=[]:=List.eq_nil_of_length_eq_zero Fn;subst Eh;refine⟨.agg #[],rfl,?_⟩;simp[execOp,Ad,he,Instr.loadAt,ZW,ZI,loadVar,ht.agg,Bu,ht.size,loadCells,h0,loadCellsFrom]
 have Q6:∃c0,vw.fb b=ZA c0:=by
  cases hb:vw.fb b with
  |some c0=>exact⟨c0,rfl⟩
  |none=>exfalso;have h1:0<cs.length:=Fn;have:=Cw 0 cs[0] (AH h1);simp[hb]at this
 obtain⟨c0,JL⟩:=Q6;obtain⟨kk',vs,h1,_,h2,h3⟩:=Ef.2 b c0 JL;rw[hk]at h1;cases h1;have hv:∀m c,cs[m]? =ZA c->∃u,vs[off+m]? =ZA u/\c.den U j=ZA u:=fun m c hm=>by have:=Cw m c hm;simp only[JL,Option.bind_some]at this;exact dP h2 (off+m) c this
 have Md:Af U j cs=ZA ((vs.drop off).take i.size):=by
  refine lQ ?_ (fun m c hm=> ?_)
  .rw[YZ,List.length_drop,AZ];obtain⟨u,hu,_⟩:=hv (cs.length-1) cs[cs.length-1] (AH Fn);have:=(cZ.1 hu).1;omega
  .obtain⟨u,hu,hd⟩:=hv m c hm;refine⟨u,?_,hd⟩;have As:=(cZ.1 hm).1;rw[List.getElem?_take,ae Fn,List.getElem?_drop];exact hu
 have hl:=aV Md;refine⟨_,by simp only[V.den,Md];rfl,?_⟩;have h4:=gP (P:=P) (a:=⟨kk,off,ZE⟩) (w:=w) ((vs.drop off).take i.size) 0 #[] (fun m u hu=>by
  rw[bB,bP];have As:m<i.size:=by have:=(cZ.1 hu).1;rw[YZ]at this;omega
  rw[List.getElem?_take,ae As,List.getElem?_drop]at hu;refine h3 _ u hu ?_;have hc:=AH (show m<cs.length by omega);have hg:=Cw m _ hc;simp only[JL,Option.bind_some]at hg;unfold jM;rw[bZ,hg];exact CB.1 Ek _ (List.getElem_mem _))
 rw[hl,AZ]at h4;simp[execOp,Ad,he,Instr.loadAt,ZW,ZI,loadVar,ht.agg,Bu,ht.size,loadCells,h4]
def tH(hT:∀t i,(t,i)∈cx.ty->TIok P t i)(Ad:o.op=.load t x)(hx:vw.ev x=ZA (.one (.fp b off)))(hi:ap t cx.ty=ZA i)(Bu:¬i.agg=ZB){c:C}(hc:(vw.fb b).bind (·[off]?)=ZA c)(Ek:c.solid=ZB)(h:(k {val:=.one c} kw).holds sp G U I)(hg:Good sp cx.sm U kw):Sound P sp U G I base cx vw o k kw:=by
 refine⟨_,kw,h,hg,.refl _,OpOk.pure fun j a w _ Au _ _ Ef=> ?_⟩;have ht:=hT _ _ (af hi);obtain⟨kk,hk,he⟩:=QL (Au x Or _ hx);rw[de]at hc;obtain⟨c0,JL,hc⟩:=hc;obtain⟨kk',vs,h1,_,h2,h3⟩:=Ef.2 b c0 JL;rw[hk]at h1;cases h1;obtain⟨u,hu,hd⟩:=dP h2 off c hc;have DB:i.agg=ZC:=Yy;have h4:=h3 off u hu (by unfold jM;rw[bZ,hc];exact Ek);exact⟨u,hd,by simp[execOp,Ad,he,Instr.loadAt,ZW,ZI,loadVar,ht.agg,DB,load,Sem.run,h4]⟩
def xw{id:Nat}(hs:j.s id=ZA s)(h:(V.one (.ep id Bt e off)).den U j=ZA v):∃a,s.a=ZA a/\v=.pointer (ZA (a.add ((e.I U).toNat*Bt+off))):=by simp only[V.den,C.den,hs,Option.bind_some,SV.elem,Ay]at h;obtain⟨a,ha,rfl⟩:=h;exact⟨a,ha,rfl⟩
def tX(U:Env)(j:J)(l e:E)(c:Nat)(k:CE):(H4 l e c k).den U j=ZA (kz k (gt (l.R U) (e.I U) c)):=by cases k<;>simp[H4,C.den,kz,yX,uq]
def wF{l e:E}:∀{ks:List CE} {c0 m:Nat} {c:C},(lc l e c0 ks)[m]? =ZA c->∃k,ks[m]? =ZA k/\c=H4 l e (c0+m) k
 |[],c0,m,c,h=>by simp[lc]at h
 |k::ks,c0,m,c,h=>by
   cases m with
   |zero=>simp[lc]at h;exact⟨k,rfl,h.symm⟩
   |succ m=>obtain⟨k',h1,h2⟩:=wF (ks:=ks) (c0:=c0+1) (m:=m) (by simpa[lc]using h);exact⟨k',by simpa using h1,by rw[h2];congr 1;omega⟩
def om(l e:E):∀(ks:List CE) (c0:Nat),(lc l e c0 ks).length=ks.length
 |[],_=>rfl
 |k::ks,c0=>by simp[lc,om l e ks]
def afb(hT:∀t i,(t,i)∈cx.ty->TIok P t i)(Ad:o.op=.load t x){id:Nat}(hx:vw.ev x=ZA (.one (.ep id Bt e off)))(hi:ap t cx.ty=ZA i)(hr:vw.sw id=ZA r)(Cq:r.ks.length=Bt)(OM:off+i.size<=Bt)
  (h:(AK (GS e r.l) (fun b kw=>if b then
      (if i.agg then k {val:=.agg (TX r.l e off ((r.ks.drop off).take i.size)),rr:=[id]} kw
      else match r.ks[off]? with
       |some ck=>k {val:=.one (H4 r.l e off ck),rr:=[id]} kw
       |none=>.stuck 53)
      else .stuck 54) kw).holds sp G U I) (hg:Good sp cx.sm U kw):Sound P sp U G I base cx vw o k kw:=by
 simp only[agK]at h;obtain⟨An,h1,g1,_,l1⟩:=aO _ _ _ h hg;rw[xl]at h1;have ht:=hT _ _ (af hi);split at h1
 .rename_i hb;simp only[ne,aE]at hb;have cells:∀{j:J} {w:World} {s:SV} {p:Addr},SlOk U base w s r->s.a=ZA p->∀c ck,r.ks[c]? =ZA ck->w.cell? (p.add ((e.I U).toNat*Bt+c))=ZA (kz ck (gt (r.l.R U) (e.I U) c)):=by
   intro j w s p Aj hp c ck Ea;have:=mR Ea (i:=(e.I U).toNat) Aj.rows.row Fn;rw[Cq]at this;exact Aj.rd.2.2.2.2 p hp _ _ this
  split at h1
  .rename_i Bu;refine⟨_,An,h1,g1,l1,OpOk.pure fun j a w _ Au _ BQ _=> ?_⟩;obtain⟨s,hs,Aj⟩:=BQ.sl id (by simp) r hr;obtain⟨p,hp,he⟩:=xw hs (Au x Or _ hx);have Ko:((r.ks.drop off).take i.size).length=i.size:=by rw[YZ,List.length_drop];omega
   have Md:Af U j (lc r.l e off ((r.ks.drop off).take i.size))=ZA ((List.range i.size).map fun m=>kz ((r.ks[off+m]?).getD ZE) (gt (r.l.R U) (e.I U) (off+m))):=by
    refine lQ (by rw[om,Ko];simp) (fun m c hm=> ?_);obtain⟨ck,Ea,rfl⟩:=wF hm;have Hs:m<i.size:=by have:=(cZ.1 Ea).1;omega
    rw[List.getElem?_take,ae Hs,List.getElem?_drop]at Ea;refine⟨_,?_,tX U j _ _ _ _⟩;simp[Hs,Ea]
   refine⟨_,by simp only[V.den,Md];rfl,?_⟩;have h4:=gP (P:=P) (a:=p.add ((e.I U).toNat*Bt+off)) (w:=w) ((List.range i.size).map fun m=>kz ((r.ks[off+m]?).getD ZE) (gt (r.l.R U) (e.I U) (off+m))) 0 #[] (fun m u hu=>by
    rw[bP,bS,ZU];have Hs:m<i.size:=by have:=(cZ.1 hu).1;simpa using this
    obtain⟨ck,Ea⟩:∃ck,r.ks[off+m]? =ZA ck:=⟨_,AH Fn⟩
    have:=cells (j:=j) Aj hp (off+m) ck Ea;simp[Hs,Ea]at hu;rw[this,hu])
   simp only[List.length_map,List.length_range]at h4;simp[execOp,Ad,he,Instr.loadAt,ZW,ZI,loadVar,ht.agg,Bu,ht.size,loadCells,h4]
  .rename_i Bu;split at h1
   next ck Ea=>refine⟨_,An,h1,g1,l1,OpOk.pure fun j a w _ Au _ BQ _=> ?_⟩;obtain⟨s,hs,Aj⟩:=BQ.sl id (by simp) r hr;obtain⟨p,hp,he⟩:=xw hs (Au x Or _ hx);have h4:=cells (j:=j) Aj hp off ck Ea;have DB:i.agg=ZC:=Yy;exact⟨_,tX U j _ _ _ _,by simp[execOp,Ad,he,Instr.loadAt,ZW,ZI,loadVar,ht.agg,DB,load,Sem.run,h4]⟩
   .exact h1.elim
 .exact h1.elim
def abu{ty:Nat}(h:w.ownsRow base ty Bt s.v s.n xs){p:Addr}(hp:s.a=ZA p):∃g,p=⟨g,0,ZE⟩/\s.v=.slice (ZA ⟨g,0,ZE⟩) s.n s.c:=by
 rcases h.2 with⟨hv,_⟩|⟨g,Hp,cur,hv,_⟩
 .simp only[SV.v,hp]at hv;cases hv
 .simp only[SV.v,hp,Value.slice.injEq,bo]at hv;exact⟨g,hv.1,by simp only[SV.v,hp,hv.1]⟩
def ae0{L:LL}{c:Nat}{k:CE}(hk:ks[c]? =ZA k){x:Int}(hx:Dp k x=ZB)(h:RowsIn ks L)(i:Int):RowsIn ks (st L i c x):=by
 refine⟨fun r hr=> ?_,by rw[iC];exact h.len⟩;rcases wX hr with hr|⟨r0,GR,rfl⟩
 .exact h.row r hr
 .exact pZ (h.row r0 GR) hk hx
def jU{ty g n Hp:Nat}{e:E}{j:J}{vk:List VK}(hv:Vk U vk):∀(ks0:List CE) (cs:List C) (l l':E) (off i0:Nat) (vs:List Value) (w:World) (p:Addr),
  gg vk l e off ks0 cs=ZA l'->Af U j cs=ZA vs->∀ks:List CE,(∀m:Nat,ks0[m]? =ks[off+m]?)->RowsIn ks (l.R U)->(e.I U).toNat<(l.R U).length->w.ownsRow base ty ks.length (.slice (ZA ⟨g,0,ZE⟩) n Hp) n (flat ks (l.R U))->(∀m,p.add (i0+m)=⟨g,(e.I U).toNat*ks.length+(off+m),ZE⟩)->
  ∃w',(storeCells p vs i0).run P w=.ok () w'/\w'.ownsRow base ty ks.length (.slice (ZA ⟨g,0,ZE⟩) n Hp) n (flat ks (l'.R U))/\w.grownBy w' (ZA g)/\RowsIn ks (l'.R U)/\(l'.R U).length=(l.R U).length
 |ks0,[],l,l',off,i0,vs,w,p,hput,hd,ks,BG,AS,hi,AL,hp=>by
   have e1:l'=l:=by
    unfold gg at hput;cases ks0 with
    |nil=>exact(ZN hput).symm
    |cons k ks0=>cases k<;>exact(ZN hput).symm
   subst e1;cases hd;exact⟨w,by simp[storeCells],AL,⟨rfl,rfl,rfl,ZK _,fun _ _ _=>rfl⟩,AS,rfl⟩
 |[],c::cs,l,l',off,i0,vs,w,p,hput,hd,ks,BG,AS,hi,AL,hp=>by simp[gg]at hput
 |k::ks0,c::cs,l,l',off,i0,vs,w,p,hput,hd,ks,BG,AS,hi,AL,hp=>by
   simp only[Af]at hd;cases hc:c.den U j with
   |none=>rw[hc]at hd;cases hd
   |some v=>
     cases hl:Af U j cs with
     |none=>rw[hc,hl]at hd;cases hd
     |some us=>
       rw[hc,hl]at hd;cases hd;have hk:ks[off]? =ZA k:=by have:=BG 0;simpa using this.symm
       have hn:(flat ks (l.R U)).length=(l.R U).length*ks.length:=bw AS.row;have CY:off<ks.length:=(cZ.1 hk).1;have step:∀(x:Int) (l1:E),v=kz k x->Dp k x=ZB->l1.R U=st (l.R U) (e.I U) off x->gg vk l1 e (off+1) ks0 cs=ZA l'->
        ∃w',(storeCells p (v::us) i0).run P w=.ok () w'/\w'.ownsRow base ty ks.length (.slice (ZA ⟨g,0,ZE⟩) n Hp) n (flat ks (l'.R U))/\w.grownBy w' (ZA g)/\RowsIn ks (l'.R U)/\(l'.R U).length=(l.R U).length:=by
        intro x l1 OU hx FZ RB;have Re:(flat ks (l.R U)).set ((e.I U).toNat*ks.length+off) (kz k x)=flat ks (l1.R U):=by rw[FZ];exact ab6 hk x AS.row hi
        have As:(e.I U).toNat*ks.length+off<n*ks.length:=by have h1:=AL.1;rw[hn]at h1;have h2:((e.I U).toNat+1)*ks.length<=(l.R U).length*ks.length:=Nat.mul_le_mul_right _ hi;rw[Nat.succ_mul]at h2;omega
        have BB:∃u,w.cell? ⟨g,(e.I U).toNat*ks.length+off,ZE⟩=ZA u:=by
         have h1:=AL.cellAt _ As;have h2:(e.I U).toNat*ks.length+off<(flat ks (l.R U)).length:=by rw[AL.1];exact As
         exact⟨_,by rw[h1,AH h2]⟩
        obtain⟨u,hu⟩:=BB;have Km:=AL.frozenAt ((e.I U).toNat*ks.length+off);obtain⟨h3,h4⟩:=AL.stored ((e.I U).toNat*ks.length+off) v;rw[OU,Re]at h3;have Kp:=hp 0;simp only[ZR]at Kp;have ID:v.oneCell'=ZB:=by rw[OU];cases k<;>rfl
        obtain⟨w',h5,h6,h7,h8,h9⟩:=jU hv ks0 cs l1 l' (off+1) (i0+1) us (w.setCell ⟨g,(e.I U).toNat*ks.length+off,ZE⟩ v) p RB hl ks (fun m=>by have:=BG (m+1);simpa[ZU,Nat.add_comm 1 m]using this)
         (by rw[FZ];exact ae0 hk hx AS _) (by rw[FZ,iC];exact hi) (by rw[OU];exact h3) (fun m=>by rw[ZU,Nat.add_comm 1 m,hp (m+1)];congr 1;omega)
        refine⟨w',?_,h6,h4.trans h7,h8,by rw[h9,FZ,iC]⟩;simp only[storeCells,Kp,ZI,run_store P w _ v _ ID,hu,Km,Result.andThen_ok,Bool.false_eq_true,eA];exact h5
       cases k with
       |none=>
         cases c<;>simp only[gg]at hput<;>first|cases hput|skip
         rename_i x;have OU:v=.bool (x.B U):=(ZN hc).symm;exact step (AD (x.B U)) _ (by rw[OU];simp only[kz];cases x.B U<;>rfl) (Xl _) rfl hput
       |some kd=>
         cases c<;>simp only[gg]at hput<;>first|cases hput|skip
         rename_i k' x;split at hput
         next HN=>simp only[ne]at HN;have OU:v=.int k' (x.I U):=(ZN hc).symm;exact step (x.I U) _ (by rw[OU,ax HN.1];rfl) (E.rng_ok hv x HN.2) rfl hput
         .cases hput
def acJ(hT:∀t i,(t,i)∈cx.ty->TIok P t i)(Ad:o.op=.store t x y){id:Nat}(hx:vw.ev x=ZA (.one (.ep id Bt e off))){v:V}(hy:vw.ev y=ZA v)(hi:ap t cx.ty=ZA i)
   (hr:vw.sw id=ZA r) (K5:r.own=ZB) (Cq:r.ks.length=Bt) (hf:v.flat=ZB) (hn:v.cells.length=i.size) (OM:off+i.size<=Bt)
  (h:(AK (GS e r.l) (fun b kw=>if b then
      (match gg kw.vk r.l e off (r.ks.drop off) v.cells with
       |some l=>k {val:=.one .undef,rr:=[id],re:=.set id {r with l:=l}} kw
       |none=>.stuck 57)
      else .stuck 58) kw).holds sp G U I) (hg:Good sp cx.sm U kw):Sound P sp U G I base cx vw o k kw:=by
 obtain⟨An,h1,g1,_,l1⟩:=aO _ _ _ h hg;rw[xl]at h1;have ht:=hT _ _ (af hi);split at h1
 .rename_i hb;simp only[ne,aE]at hb;split at h1
  .rename_i l hl;refine⟨_,An,h1,g1,l1,fun j a w _ Au By Ca BQ Ef K Q hK=> ?_⟩;obtain⟨s,hs,Aj⟩:=BQ.sl id (by simp) r hr;obtain⟨p,hp,he⟩:=xw hs (Au x Or _ hx);have hd:=V.cells_ok (Au y Or v hy) hf;have AL:=Aj.own K5;obtain⟨g,rfl,Kq⟩:=abu AL hp;rw[Kq]at AL;obtain⟨w',h2,h3,h4,h5,h6⟩:=jU (P:=P) g1.vk (r.ks.drop off) v.cells r.l l off 0 _ w ((⟨g,0,ZE⟩:Addr).add ((e.I U).toNat*Bt+off)) hl hd r.ks (fun m=>by rw[List.getElem?_drop]) Aj.rows Fn AL
    (fun m=>by rw[bS,bB,Cq];congr 1;omega)
   have BR:(a.eval y).cells.size=i.size:=by have:=aV hd;rw[Array.length_toList,hn]at this;exact this
   refine uW (w':=w') ?_ (hK _ j w' rfl ⟨rfl,s,hs,?_,RowOk.mk_own (r:={r with l:=l}) (Vw.sw_some hr).2 (by rw[Aj.n];exact h6.symm) h5 Aj.pos (by rw[Kq];exact h3),fun e=>by rw[show r.kd=.sl from(Vw.sw_some hr).2]at e;cases e⟩)
   .simp[execOp,Ad,he,Instr.storeAt,ZW,ZI,storeVar,ht.size,BR,h2]
   .rw[Kq];exact h4
  .exact h1.elim
 .exact h1.elim
end
section
variable {P:Program}{sp:Spec}{U:Env}{G:Env->E->Prop}{I:Nat->List Dt->Prop}{base:Nat}{cx:Cx}{vw:Vw}{o:Oper}{k:Eff->Kw->Tr}
def tO:List Value->Nat->List Value->List Value
 |cs,_,[]=>cs
 |cs,off,v::r=>tO (cs.set off v) (off+1) r
def vP{j:J}:∀{vs:List C} {us:List Value} {cs:List C} {ws:List Value} {off:Nat},Af U j vs=ZA us->Af U j cs=ZA ws->Af U j (lh cs off vs)=ZA (tO ws off us)
 |[],us,cs,ws,off,h,h'=>by cases h;exact h'
 |v::vs,us,cs,ws,off,h,h'=>by
   simp only[Af]at h;cases hc:v.den U j with
   |none=>rw[hc]at h;cases h
   |some u=>
     cases hl:Af U j vs with
     |none=>rw[hc,hl]at h;cases h
     |some l=>rw[hc,hl]at h;cases h;exact vP (vs:=vs) (us:=l) hl (uJ h' off v u hc)
def xq(off:Nat):∀(l:List Value) (m:Nat) (cells:Array Value),((l.zipIdx m).foldl (fun cs (p:Value×Nat)=>cs.setIfInBounds (off+p.2) p.1) cells).toList=tO cells.toList (off+m) l
 |[],m,cells=>rfl
 |v::l,m,cells=>by simp only[List.zipIdx_cons,List.foldl_cons];rw[xq off l (m+1)];simp[tO,ZU]
def qE{j:J}{pl:Nat->Option (Nat×Nat)}:∀(A5:List (Nat×V)) (cs Gv:List C) (us:List (Nat×Value)) (cells:Array Value),rq pl cs A5=ZA Gv->Af U j cs=ZA cells.toList->(A5.map (·.1)=us.map (·.1))->
  (∀(i:Nat) p u,A5[i]? =ZA p->us[i]? =ZA u->p.2.den U j=ZA u.2)->∃GI,Instr.fill pl cells us=ZA GI/\Af U j Gv=ZA GI.toList
 |[],cs,Gv,us,cells,h,hd,hm,hu=>by
   cases us with
   |nil=>cases h;exact⟨cells,rfl,hd⟩
   |cons _ _=>simp at hm
 |(i,v)::A5,cs,Gv,us,cells,h,hd,hm,hu=>by
   cases us with
   |nil=>simp at hm
   |cons u us=>
     obtain⟨i',u⟩:=u;simp only[List.map_cons,Be]at hm;obtain⟨rfl,hm⟩:=hm;simp only[rq]at h;split at h
     .rename_i off size hp;split at h
      .rename_i hc;simp only[ne,aE]at hc;obtain⟨h1,h2,h3⟩:=hc;have hv:=hu 0 _ _ rfl rfl;have KP:=V.cells_ok hv h1;have FZ:=aV KP;have HO:=aV hd;rw[Ak h2]at FZ;simp only[Array.length_toList]at FZ HO;have AW:Af U j (lh cs off v.cells)=ZA ((u.cells.zipIdx.foldl (fun cs (p:Value×Nat)=>cs.setIfInBounds (off+p.2) p.1) cells)).toList:=by
        rw[<-Array.foldl_toList,Array.toList_zipIdx,xq];exact vP KP hd
       obtain⟨GI,h5,h6⟩:=qE A5 _ Gv us _ h AW hm (fun i p w P3 hw=>hu (i+1) p w (by simpa using P3) (by simpa using hw));refine⟨GI,?_,h6⟩;unfold Instr.fill;have Q2:¬(u.cells.size≠size||decide (off+u.cells.size>cells.size))=ZB:=XD;simp only[hp];rw[aa Q2];exact h5
      .exact Xo
     .exact Xo
def TK{ev:Operand->Option V}{j:J}{a:Act}:∀{l:List (Nat×Operand)} {vs:List (Nat×V)},KI ev l=ZA vs->(∀x∈l.map (·.2),∀v,ev x=ZA v->v.den U j=ZA (a.eval x))->
  vs.map (·.1)=(l.map fun p=>(p.1,a.eval p.2)).map (·.1)/\∀(i:Nat) p u,vs[i]? =ZA p->(l.map fun p=>(p.1,a.eval p.2))[i]? =ZA u->p.2.den U j=ZA u.2
 |[],vs,h,Au=>by cases h;exact⟨rfl,fun i p u hp=>by simp at hp⟩
 |(n,x)::l,vs,h,Au=>by
   simp only[KI]at h;cases hc:ev x with
   |none=>rw[hc]at h;cases h
   |some v=>
     cases hl:KI ev l with
     |none=>rw[hc,hl]at h;cases h
     |some us=>
       rw[hc,hl]at h;cases h;obtain⟨h1,h2⟩:=TK (a:=a) (j:=j) hl (fun y hy=>Au y (cR _ hy));refine⟨by simp[h1],fun i p u hp hu=> ?_⟩;cases i with
       |zero=>simp at hp hu;subst hp hu;exact Au x bW v hc
       |succ i=>exact h2 i p u (by simpa using hp) X2
def oR(z:Array Value)(n:Nat):(madeCells z (n*z.size)).toList=(ZM n z.toList).flatten:=by
 have hf:(madeCells z (n*z.size)).toList=(List.range (n*z.size)).map (fun i=>z[i % z.size]!):=by simp[madeCells]
 rw[hf];clear hf
 induction n with
 |zero=>simp
 |succ n ih=>
   rw[Nat.succ_mul,List.range_add,List.map_append,ih,List.replicate_succ',List.flatten_concat];congr 1;apply List.ext_getElem?;intro i;by_cases hi:i<z.size
   .have:(n*z.size+i) % z.size=i:=by rw[Nat.add_comm,Nat.add_mul_mod_self_right,Nat.mod_eq_of_lt hi]
    simp[hi,this]
   .simp[hi]
def tW{j:J}{vk:List VK}(hv:Vk U vk):∀{ks:List CE} {cs:List C} {r:E} {vs:List Value},cs.all (C.rng vk)=ZB->PF ks cs=ZA r->Af U j cs=ZA vs->vs=Bm ks (r.L U)/\az ks (r.L U)=ZB
 |[],[],r,vs,_,h,hd=>by cases h;cases hd;exact⟨rfl,rfl⟩
 |some k::ks,.int k' x::cs,r,vs,hr,h,hd=>by
   simp only[PF]at h;simp only[YX,ne]at hr;split at h
   .rename_i hk;rw[Ay]at h;obtain⟨t,ht,rfl⟩:=h;simp only[Af,C.den]at hd;cases hl:Af U j cs with
    |none=>rw[hl]at hd;cases hd
    |some us=>rw[hl]at hd;cases hd;obtain⟨h1,h2⟩:=tW hv hr.2 ht hl;refine⟨by simp only[E.L,Bm,kz];rw[h1,ax hk],?_⟩;simp only[E.L,az,Dp,ne];exact⟨E.rng_ok hv x (by have h9:x.rng vk k'=ZB:=hr.1;rw[ax hk]at h9;exact h9),h2⟩
   .exact Xo
 |none::ks,.bool x::cs,r,vs,hr,h,hd=>by
   simp only[YX,ne]at hr;simp only[PF,Ay]at h;obtain⟨t,ht,rfl⟩:=h;simp only[Af,C.den]at hd;cases hl:Af U j cs with
   |none=>rw[hl]at hd;cases hd
   |some us=>rw[hl]at hd;cases hd;obtain⟨h1,h2⟩:=tW hv hr.2 ht hl;refine⟨by simp only[E.L,Bm,kz];rw[h1];congr 2;cases x.B U<;>rfl,?_⟩;simp only[E.L,az,ne];exact⟨Xl _,h2⟩
def nH(hv:Vk U vk){cs:List C}{r:E}{vs:List Value}(h:Gt vk ks cs=ZA r)(hd:Af U j cs=ZA vs):vs=Bm ks (r.L U)/\az ks (r.L U)=ZB:=by
 unfold Gt at h;cases hr:Zb vk cs vk 0 with
 |false=>rw[hr]at h;cases h
 |true=>rw[hr]at h;exact tW hv (rngs_ok cs vk 0 rfl hr) h hd
def abd{j:J}{vk:List VK}(hv:Vk U vk){ks:List CE}:∀(n:Nat) {cs:List C} {l:E} {vs:List Value},PJ vk ks n cs=ZA l->Af U j cs=ZA vs->vs=flat ks (l.R U)/\(l.R U).length=n/\∀r∈l.R U,az ks r=ZB
 |0,[],l,vs,h,hd=>by cases h;cases hd;exact⟨rfl,rfl,fun r hr=>by cases hr⟩
 |0,_::_,l,vs,h,hd=>by simp[PJ]at h
 |n+1,cs,l,vs,h,hd=>by
   simp only[PJ]at h;split at h
   .rename_i r l' hr hl;cases h;obtain⟨h1,h2⟩:=nH hv hr (mV hd _);obtain⟨h3,h4,h5⟩:=abd hv n hl (ku hd _);rw[aiK,cN,<-h1,<-h3];refine⟨by rw[List.take_append_drop],by simp[h4],fun x hx=> ?_⟩;rcases YS.1 hx with rfl|hx
    .exact h2
    .exact h5 x hx
   .exact Xo
def zj:CR ks≠.tab:=by rcases cH ks with⟨_,h⟩|⟨_,h⟩<;>rw[h]<;>simp
def Ext.of_grown(h:w.grownBy w' ZE):Ext w w':=Below.grown (Ext.refl w) h (ZK _) (fun k hk=>by cases hk)
def ov{v:V}(hx:Ext w w')(hr:RowOk U w.heap.size w' u r)(ho:r.own=ZB){eff:Eff}(he:eff={val:=v,rd:=eff.rd,rr:=eff.rr,re:=.mk [r]})(hz:u.z=[]:=by first|rfl|assumption)(ht:r.kd=.tab->∀jj,TbAt U jj w' u r:=by first|(intro h;cases h;done)|(intro h;exact ai h zj)):Nc U base nid eff j w (j.putL nid [u]) w':=by
 rw[he];refine⟨hx,[u],rfl,fun i u' r' h1 h2=> ?_,fun i i' u1 u2 k h1 h2 _ _=> ?_,fun u' JQ=>NewZ.nil (by rw[dA.1 JQ];exact hz),by simp[hz,J.addzs]⟩
 .cases i with
  |zero=>simp at h1 h2;subst h1 h2;exact⟨hr,ho,ht⟩
  |succ i=>simp at h1
 .cases i with
  |zero=>
    cases i' with
    |zero=>rfl
    |succ i'=>simp at h2
  |succ i=>simp at h1
def Tx:(V.one (.sl nid)).den U (j.putL nid [u])=ZA u.v:=by simp[V.den,C.den,J.putL]
def afs:(V.one (.sl nid)).den U (j.putS nid u)=ZA u.v:=by simp[V.den,C.den,J.putS]
def ri(hT:∀t i,(t,i)∈cx.ty->TIok P t i)(Ad:o.op=.buildSlice t n ps)(Gy:KI vw.ev ps.toList=ZA A5)(hi:ap t cx.ty=ZA i)(ha:i.sle=ZA et)(BA:ap et cx.ty=ZA ie){cs:List C}(Eg:rq (fun m=>ZA (m*ie.size,ie.size)) ((ZM n ie.zero).flatten) A5=ZA cs)(hl:PJ kw.vk ks n cs=ZA l)(hq:n*ie.size<=16777216/\0<ie.size/\ks.length=ie.size)(h:(k {val:=.one (.sl vw.nid),re:=.mk [⟨ks,et,l,ZB,.sl⟩]} kw).holds sp G U I)(hg:Good sp cx.sm U kw):Sound P sp U G I base cx vw o k kw:=by
 refine⟨_,kw,h,hg,.refl _,fun j a w hb Au By Ca BQ Ef K Q hK=> ?_⟩;obtain⟨h1,h2⟩:=TK (a:=a) (j:=j) Gy (fun x hx=>Au x (by
  simp only[Ad,Op.operands];simpa using hx))
 have h3:(ps.map fun p=>(p.1,a.eval p.2)).toList=ps.toList.map fun p=>(p.1,a.eval p.2):=Array.toList_map ..;have hx:execOp a.eval o=(do let v <-Instr.buildSlice t n (ps.map fun p=>(p.1,a.eval p.2));pure (.value v)):=by simp only[execOp,Ad]
 have hu:=(hT _ _ (af hi)).sle et ha;have OS:=hT _ _ (af BA);have BR:=OS.size;obtain⟨CL,z,C7,Cy,_,hz,Ih,II⟩:=OS.info;have Jh:z.cells.size=ie.size:=by simpa using Ih
 have zer:Af U j ((ZM n ie.zero).flatten)=ZA (madeCells z.cells (n*ie.size)).toList:=by
  rw[<-Jh,oR];have:∀n,Af U j ((ZM n ie.zero).flatten)=ZA ((ZM n z.cells.toList).flatten):=by
   intro n
   induction n with
   |zero=>rfl
   |succ n ih=>simp only[List.replicate_succ,List.flatten_cons];exact gB (II U j) ih
  exact this n
 obtain⟨cells,h4,h5⟩:=qE (j:=j) A5 _ cs _ (madeCells z.cells (n*ie.size)) Eg zer h1 h2;obtain⟨h6,h7,h8⟩:=abd hg.vk n hl h5;have K0:n<=maxLen:=by have:n*1<=n*ie.size:=Nat.mul_le_mul_left n hq.2.1;simp only[maxLen];omega
 have CS:cells.size=n*ks.length:=by have:=congrArg List.length h6;rw[bw h8,h7]at this;simpa using this
 have own:=World.ownsRow_lit (base:=w.heap.size) (e:=et) (size:=ks.length) w cells n (ZK _) K0 CS;rw[h6]at own;refine dH (w':=w.alloc (.cells cells et)) (v:=(⟨ZA ⟨w.heap.size,0,ZE⟩,n,n,[]⟩:SV).v) ?_ (hK _ (j.putL vw.nid [⟨ZA ⟨w.heap.size,0,ZE⟩,n,n,[]⟩]) _ Tx (ov (Ext.of_grown (World.grownBy_alloc w _ ZE)) (RowOk.mk_own rfl h7.symm ⟨h8,by rw[h7];exact K0⟩ (by simp only;omega) own) rfl rfl));rw[hx];have Ee:¬(16777216<n*ie.size):=Fn;by_cases P1:n*ie.size=0
 .have hn:n=0:=by
   rcases Nat.mul_eq_zero.1 P1 with h|h
   .exact h
   .exact Fn
  subst hn;have QZ:Instr.fill (fun m=>ZA (m*ie.size,ie.size)) #[] (ps.toList.map fun p=>(p.1,a.eval p.2))=ZA cells:=by rw[<-h4];congr 1;simp[madeCells]
  simp[Instr.buildSlice,ZI,run_underlying hu,BR,h3,Array.range_zero',QZ,newRow,SV.v]
 .simp only[madeCells]at h4;simp[Instr.buildSlice,ZI,run_underlying hu,BR,h3,Ee,P1,zeroValue,typeInfo,C7,hz,h4,newRow,SV.v]
def tF(hT:∀t i,(t,i)∈cx.ty->TIok P t i)(Ad:o.op=.makeSlice t x y){k1 k2:IntKind}{e':E}(hx:vw.ev x=ZA (.one (.int k1 e)))(hy:vw.ev y=ZA (.one (.int k2 e')))(hi:ap t cx.ty=ZA i)(ha:i.sle=ZA et)(BA:ap et cx.ty=ZA ie)
   {r:E} (hr:Gt kw.vk ks ie.zero=ZA r) (hq:e.same e'=ZB/\0<ie.size/\ks.length=ie.size/\ie.bytes<=65536)
  (h:(AK (Bl e (.p 0)) (fun b kw=>if b then .panic else AK (Bl e (.p EP)) (fun b kw=>if b then
         k {val:=.one (.sl vw.nid),re:=.mk [⟨ks,et,.lrep e r,ZB,.sl⟩]} kw else .panic) kw) kw).holds sp G U I) (hg:Good sp cx.sm U kw):Sound P sp U G I base cx vw o k kw:=by
 have RQ:=hg.vk;obtain⟨Cc,h1,g1,_,l1⟩:=aO _ _ _ h hg;rw[dh]at h1;split at h1
 .exact h1.elim
 rename_i hneg;obtain⟨Dq,h2,g2,_,l2⟩:=aO _ _ _ h1 g1;rw[dh]at h2;split at h2
 .rename_i Ee;have Rv:0<=e.I U:=by
   have h3:¬e.I U<0:=Ab (Bool.eq_false_iff.2 hneg);omega
  have KO:e.I U<1073741824:=Ah Ee;have hes:=E.same_eq hq.1;rw[<-hes]at hy;refine⟨_,Dq,h2,g2,l2.trans l1,fun j a w hb Au By Ca BQ Ef K Q hK=> ?_⟩;have KS:=cF (Au x Or _ hx);have MP:=cF (Au y Or _ hy);have hu:=(hT _ _ (af hi)).sle et ha;have OS:=hT _ _ (af BA);obtain⟨CL,z,C7,Cy,EB,hz,Ih,II⟩:=OS.info;obtain⟨h6,h7⟩:=nH RQ hr (II U j);have hN:((e.I U).toNat:Int)=e.I U:=Int.toNat_of_nonneg Rv;have As:(e.I U).toNat<1073741824:=Fn;have K0:(e.I U).toNat<=maxLen:=Ye;have MO:CL.bytes*(e.I U).toNat<=281474976710656:=by have:CL.bytes*(e.I U).toNat<=65536*1073741824:=Nat.mul_le_mul Fn Fn;omega
  obtain⟨w',h3,h4,h5⟩:=run_make_full (P:=P) w w.heap.size t et CL z ie.size hu C7 hz Cy k1 k2 (e.I U).toNat MO K0 (ZK _);have Jh:z.cells.size=ie.size:=by simpa using Ih
  have Rb:(madeCells z.cells ((e.I U).toNat*ie.size)).toList=flat ks ((E.lrep e r).R U):=by rw[<-Jh,oR,h6];simp[E.R,flat,List.flatMap_replicate]
  rw[Rb,<-hq.2.2.1]at h4;have AZ:((E.lrep e r).R U).length=(e.I U).toNat:=by simp[E.R]
  refine dH (w':=w') (v:=(⟨ZA ⟨w.heap.size,0,ZE⟩,(e.I U).toNat,(e.I U).toNat,[]⟩:SV).v) ?_ (hK _ (j.putL vw.nid [⟨ZA ⟨w.heap.size,0,ZE⟩,(e.I U).toNat,(e.I U).toNat,[]⟩]) _ Tx (ov (Ext.of_grown h5) (RowOk.mk_own rfl AZ.symm ⟨fun x hx=> ?_,by rw[AZ];exact K0⟩ (by simp only;omega) h4) rfl rfl))
  .rw[hN]at h3;simp[execOp,Ad,KS,MP,h3,SV.v,ZI]
  .simp only[E.R,List.mem_replicate]at hx;rw[hx.2];exact h7
 .exact h2.elim
end
section
variable {P:Program}{sp:Spec}{U:Env}{G:Env->E->Prop}{I:Nat->List Dt->Prop}{base:Nat}{cx:Cx}{vw:Vw}{o:Oper}{k:Eff->Kw->Tr}
def tM{id:Nat}(hs:j.s id=ZA s)(h:(V.one (.sl id)).den U j=ZA v):v=s.v:=by simp only[V.den,C.den,hs,YR,bo]at h;exact h.symm
def Xi(h:(V.one .nsl).den U j=ZA v):v=.slice ZE 0 0:=(ZN h).symm
def ww(hu:P.underlying t=ZA (.slice et))(hs:(sizeOf et).run P w=.ok Bt w)(s:SV)(l h:Nat)(low high:Option Value)(hl:(low=ZE/\l=0)\/∃kd:IntKind,low=ZA (.int kd (l:Int)))(hh:(high=ZE/\h=s.n)\/∃kd:IntKind,high=ZA (.int kd (h:Int)))(h1:l<=h)(h2:h<=s.n)(h3:s.n<=s.c):
  (Instr.sliceAt t s.v low high ZE).run P w=.ok (⟨if s.c=l then s.a else s.a.map (·.add (l*Bt)),h-l,s.c-l,[]⟩:SV).v w:=by
 have sb:∀(kd:IntKind) (m y:Nat) code,m<=y->(Instr.sliceBound (.int kd (m:Int)) y code).run P w=.ok m w:=fun kd m y code hmy=>by have h5:(m:Int)<=(y:Int):=Fn;simp[Instr.sliceBound,asIntOf,ZI,hmy]
 have b1:(Instr.sliceBounds ZB s.n s.c low high ZE).run P w=.ok (l,h,s.c) w:=by
  rcases hl with⟨rfl,rfl⟩|⟨kd,rfl⟩<;>rcases hh with⟨rfl,rfl⟩|⟨R8,rfl⟩
  .simp[Instr.sliceBounds,ZI]
  .simp[Instr.sliceBounds,ZI,sb R8 h s.c _ Fn]
  .simp[Instr.sliceBounds,ZI,sb kd l s.n _ Fn]
  .simp[Instr.sliceBounds,ZI,sb kd l h _ Fn,sb R8 h s.c _ Fn]
 simp[Instr.sliceAt,Instr.slice,SV.v,run_underlying hu,ZI,b1,hs]
def xE{l:Nat}:∀k,(⟨if s.c=l then s.a else s.a.map (·.add (l*Bt)),h-l,s.c-l,[]⟩:SV).blk ZC=ZA k->s.blk ZC=ZA k:=by
 intro k hk;have hc:s.c≠0:=fun hc=>by unfold SV.blk at hk;simp[hc]at hk
 refine mZ hc ?_;have hk:=ay hk;obtain⟨a,n,c,z⟩:=s;simp only[SV.v]at hk ⊢;split at hk
 .cases a<;>simp_all [Value.ownBlock]
 .cases a with
  |none=>simp[Value.ownBlock]at hk
  |some a=>simp only[YR,Value.ownBlock,bo]at hk ⊢;rw[<-hk];unfold Addr.add;split<;>rfl
def arb{l:Nat}(Aj:SlOk U base w s r)(hq:q.ks=r.ks/\q.own=ZC)(hL:q.l.R U=((r.l.R U).take h).drop l)(h1:l<=h)(h2:h<=s.n):
  SlOk U base w ⟨if s.c=l then s.a else s.a.map (·.add (l*r.ks.length)),h-l,s.c-l,[]⟩ q:=by
 obtain⟨r1,r2,r3,r4,r5⟩:=Aj.rd;have hn:=Aj.n;have AZ:(q.l.R U).length=h-l:=by rw[hL,List.length_drop,YZ];omega
 have AS:∀x∈q.l.R U,az r.ks x=ZB:=fun x hx=>Aj.rows.row x (by rw[hL]at hx;exact List.mem_of_mem_take (List.mem_of_mem_drop hx));refine⟨AZ.symm,⟨by rw[hq.1];exact AS,by rw[AZ];omega⟩,by rw[hq.1];exact Aj.pos,fun k hk=> ?_,fun ho=>(by rw[hq.2]at ho;cases ho),?_⟩
 .rw[hq.2]at hk;exact Aj.lt k (bN (xE k hk))
 .rw[hq.1];have E0:flat r.ks (q.l.R U)=((flat r.ks (r.l.R U)).take (h*r.ks.length)).drop (l*r.ks.length):=by
   rw[qA h Aj.rows.row,qB l (fun x hx=>Aj.rows.row x (List.mem_of_mem_take hx)),hL]
  refine⟨by rw[bw AS,AZ],by simp only;omega,by simp only;omega,fun ha=> ?_,fun a ha i u hi=> ?_⟩
  .simp only at ha ⊢;split at ha
   .have:=r4 ha;omega
   .rw[Option.map_eq_none_iff]at ha;have:=r4 ha;omega
  .simp only at ha;have As:i<(flat r.ks (q.l.R U)).length:=(cZ.1 hi).1;rw[bw AS,AZ]at As;split at ha
   next hc=>have:h-l=0:=Fn;rw[this]at As;omega
   .rw[Ay]at ha;obtain⟨a0,JI,rfl⟩:=ha;rw[bS];refine r5 a0 JI _ u ?_;rw[E0,List.getElem?_drop,List.getElem?_take]at hi;split at hi
    .exact hi
    .cases hi
def SlOk.shut(h:SlOk U base w s r):SlOk U base w s {r with own:=ZC}:=⟨h.n,h.rows,h.pos,fun k hk=>h.lt k (bN hk),fun ho=>(by cases ho),h.rd⟩
def ao6(hT:∀t i,(t,i)∈cx.ty->TIok P t i){lo Bg:Option Operand}(Ad:o.op=.slice t x lo Bg ZE){id:Nat}(hx:vw.ev x=ZA (.one (.sl id)))(hi:ap t cx.ty=ZA i)(ha:i.sle=ZA et)(BA:ap et cx.ty=ZA ie)(hr:vw.sw id=ZA r)(Cq:r.ks.length=ie.size){L H:Nat}(Ma:(lo=ZE/\L=0)\/∃y kd e,lo=ZA y/\vw.ev y=ZA (.one (.int kd e))/\e.I U=(L:Int))(L9:(Bg=ZE/\H=(r.l.R U).length)\/∃y kd e,Bg=ZA y/\vw.ev y=ZA (.one (.int kd e))/\e.I U=(H:Int)){l':E}(B4:l'.R U=((r.l.R U).take H).drop L)(hLH:L<=H/\H<=(r.l.R U).length)(h:(k {val:=.one (.sl vw.nid),rr:=[id],re:=.view id {r with own:=ZC} ⟨r.ks,et,l',ZC,.sl⟩} kw).holds sp G U I)(hg:Good sp cx.sm U kw):Sound P sp U G I base cx vw o k kw:=by
 refine⟨_,kw,h,hg,.refl _,fun j a w hbw Au By Ca BQ Ef K Q hK=> ?_⟩;obtain⟨s,hs,Aj⟩:=BQ.sl id (by simp) r hr;have hd:=tM hs (Au x Or _ hx);have hu:=(hT _ _ (af hi)).sle et ha;have BR:=(hT _ _ (af BA)).size w;rw[<-Cq]at BR;have hn:=Aj.n;have FZ:(lo.map a.eval=ZE/\L=0)\/∃kd:IntKind,lo.map a.eval=ZA (.int kd (L:Int)):=by
  rcases Ma with⟨rfl,h0⟩|⟨y,kd,e,rfl,hy,he⟩
  .exact .inl ⟨rfl,h0⟩
  .exact .inr ⟨kd,by rw[YR,cF (Au y Or _ hy),he]⟩
 have hh1:(Bg.map a.eval=ZE/\H=s.n)\/∃kd:IntKind,Bg.map a.eval=ZA (.int kd (H:Int)):=by
  rcases L9 with⟨rfl,h0⟩|⟨y,kd,e,rfl,hy,he⟩
  .exact .inl ⟨rfl,by rw[h0,hn]⟩
  .exact .inr ⟨kd,by rw[YR,cF (Au y Or _ hy),he]⟩
 have Cl:=ww (P:=P) hu BR s L H _ _ FZ hh1 hLH.1 Fn Aj.rd.2.1;refine dH (w':=w) (v:=(⟨if s.c=L then s.a else s.a.map (·.add (L*r.ks.length)),H-L,s.c-L,[]⟩:SV).v) ?_ (hK _ (j.putS vw.nid ⟨if s.c=L then s.a else s.a.map (·.add (L*r.ks.length)),H-L,s.c-L,[]⟩) w afs ⟨rfl,s,_,hs,Aj.shut.row (Vw.sw_some hr).2,(arb (q:=⟨r.ks,et,l',ZC,.sl⟩) Aj ⟨rfl,rfl⟩ B4 hLH.1 Fn).row rfl,xE,Zin.nil rfl,rfl,(fun e=>by rw[show r.kd=.sl from(Vw.sw_some hr).2]at e;cases e),(fun e=>by cases e)⟩);simp only[execOp,Ad,hd,Option.map_none,ZI,Cl,Result.andThen_ok,Sem.run_pure]
def ze(hl:(l.R U).length<=maxLen):(IY kw.vk l).I U=((l.R U).length:Int):=by
 have h:=dF U l;unfold IY;split
 next z hz=>rw[hz]at h;exact h
 .rename_i e BM;split
  .exact h
  .show IntKind.i64.wrap _=_;rw[h];refine pt ?_;rw[bF];simp only[maxLen]at hl;simp only[IntKind.min,IntKind.max,IntKind.signed,IntKind.bits];simp;omega
def ao5(hT:∀t i,(t,i)∈cx.ty->TIok P t i)(Ad:o.op=.call c)(hc:c.callee=.builtin .len){id:Nat}(hl:Ew vw.ev c.args.toList=ZA [.one (.sl id)])(C8:c.argTypes.toList=[t])(hi:ap t cx.ty=ZA i)(Gk:i.sle.isSome=ZB)(hr:vw.sw id=ZA r)(h:(k {val:=.one (.int .i64 (IY kw.vk r.l)),rr:=[id]} kw).holds sp G U I)(hg:Good sp cx.sm U kw):Sound P sp U G I base cx vw o k kw:=by
 refine⟨_,kw,h,hg,.refl _,OpOk.pure fun j a w _ Au _ BQ _=> ?_⟩;obtain⟨s,hs,Aj⟩:=BQ.sl id (by simp) r hr;obtain⟨h1,h2⟩:=jn (j:=j) (a:=a) hl (fun x hx=>Au x Xp);have h3:c.args.map a.eval = #[s.v]:=by
  have:c.args.toList.map a.eval=[s.v]:=by
   match hm:c.args.toList.map a.eval,h2 with
   |[u],_=>rw[hm]at h1;rw[tM hs (h1 0 _ u rfl rfl)]
  rw[<-Array.toArray_toList (xs:=c.args.map a.eval),Array.toList_map,this]
 obtain⟨et,L7⟩:=Option.isSome_iff_exists.1 Gk;have hu:=(hT _ _ (af hi)).sle et L7;have Dx:c.argTypes = #[t]:=Xu;have HP:(r.l.R U).length<=maxLen:=Aj.rows.len;refine⟨.int .i64 (s.n:Int),by rw[Aj.n];simp[V.den,C.den,ze HP],?_⟩;simp[execOp,Ad,resolve,hc,h3,Dx,ZI,invoke,builtin,Builtin.len_,run_underlying hu,SV.v,goInt]
def aka(hT:∀t i,(t,i)∈cx.ty->TIok P t i)(Ad:o.op=.call c)(hc:c.callee=.builtin .len)(hl:Ew vw.ev c.args.toList=ZA [.one .nsl])(C8:c.argTypes.toList=[t])(hi:ap t cx.ty=ZA i)(Gk:i.sle.isSome=ZB)(h:(k {val:=.one (.int .i64 (.p 0))} kw).holds sp G U I)(hg:Good sp cx.sm U kw):Sound P sp U G I base cx vw o k kw:=by
 refine⟨_,kw,h,hg,.refl _,OpOk.pure fun j a w _ Au _ BQ _=> ?_⟩;obtain⟨h1,h2⟩:=jn (j:=j) (a:=a) hl (fun x hx=>Au x Xp);have h3:c.args.map a.eval = #[.slice ZE 0 0]:=by
  have:c.args.toList.map a.eval=[.slice ZE 0 0]:=by
   match hm:c.args.toList.map a.eval,h2 with
   |[u],_=>rw[hm]at h1;rw[Xi (h1 0 _ u rfl rfl)]
  rw[<-Array.toArray_toList (xs:=c.args.map a.eval),Array.toList_map,this]
 obtain⟨et,L7⟩:=Option.isSome_iff_exists.1 Gk;have hu:=(hT _ _ (af hi)).sle et L7;have Dx:c.argTypes = #[t]:=Xu;refine⟨.int .i64 0,rfl,?_⟩;simp[execOp,Ad,resolve,hc,h3,Dx,ZI,invoke,builtin,Builtin.len_,run_underlying hu,goInt]
def amI{ty:Nat}(h:w.ownsRow base ty Bt v n xs):∃s:SV,v=s.v/\s.n=n/\s.z=[]:=by
 rcases h.2 with⟨rfl,rfl⟩|⟨g,Hp,cur,rfl,_⟩
 .exact⟨⟨ZE,0,0,[]⟩,rfl,rfl,rfl⟩
 .exact⟨⟨ZA ⟨g,0,ZE⟩,n,Hp,[]⟩,rfl,rfl,rfl⟩
def ew{ty e:Nat}{CL:TypeInfo}{z:Value}(ht:P.underlying t=ZA (.slice e))(hi:P.info? e=ZA CL)(hz:CL.zero=ZA z)(Jh:z.cells.size=CL.size)(BR:0<CL.size)(AL:w.ownsRow base e CL.size v n xs)
  {x:SV} {Ld:List Value} (By:RdRow w CL.size x Ld) (h1:∀u∈Ld,u.oneCell'=ZB) (h63:n+x.n<=maxLen) (EB:(n+x.n)*CL.bytes<=140737488355328) (Ct:base<=w.heap.size):
  ∃s' w',(Builtin.append_ #[t,t] ty #[v,x.v]).run P w=.ok (SV.v s') w'/\s'.n=n+x.n/\w'.ownsRow base e CL.size s'.v (n+x.n) (xs++Ld)/\w.grownBy w' v.ownBlock/\(s'.v.ownBlock=v.ownBlock\/s'.v.ownBlock=ZA w.heap.size)/\s'.z=[]:=by
 obtain⟨xa,xn,xc,xz⟩:=x;cases xa with
 |none=>
   obtain⟨h2,h3⟩:=By.2.2.2.1 rfl;simp only at h2 h3;subst h2 h3;have Eh:Ld=[]:=by have:=By.1;simp only[Nat.zero_mul]at this;exact List.eq_nil_of_length_eq_zero this
   subst Eh;obtain⟨s,rfl,hn,BR⟩:=amI AL;exact⟨s,w,run_append_owned_none w base t ty e CL CL.size ht hi _ n xs AL,hn,by simpa using AL,⟨rfl,rfl,rfl,ZK _,fun _ _ _=>rfl⟩,.inl rfl,BR⟩
 |some a=>obtain⟨v',w',hr,h2,h3,_,h5⟩:=run_append_own_at (P:=P) w base t ty e CL z CL.size CL.bytes ht hi hz rfl rfl Jh BR v n xs AL a xn xc Ld By.1 (fun j u hj=>By.2.2.2.2 a rfl j u hj) h1 h63 EB Ct;obtain⟨s,rfl,hn,BR⟩:=amI h2;exact⟨s,w',hr,hn,h2,h3,h5,BR⟩
def QI{v1 v2:V}(hl:Ew vw.ev c.args.toList=ZA [v1,v2])(Au:∀x∈c.args.toList,∀v,vw.ev x=ZA v->v.den U j=ZA (a.eval x)):∃u1 u2,c.args.map a.eval = #[u1,u2]/\v1.den U j=ZA u1/\v2.den U j=ZA u2:=by
 obtain⟨h1,h2⟩:=jn (j:=j) (a:=a) hl Au
 match hm:c.args.toList.map a.eval,h2 with
 |[u1,u2],_=>rw[hm]at h1;exact⟨u1,u2,by rw[<-Array.toArray_toList (xs:=c.args.map a.eval),Array.toList_map,hm],h1 0 _ u1 rfl rfl,h1 1 _ u2 rfl rfl⟩
def anp(U:Env)(a b:E):(DR a b).R U=a.R U++b.R U:=by
 unfold DR;split
 .simp[E.R]
 .split<;>simp[E.R]
def yv(hT:∀t i,(t,i)∈cx.ty->TIok P t i)(Ad:o.op=.call c)(hc:c.callee=.builtin .append){id:Nat}(hl:Ew vw.ev c.args.toList=ZA [.one .nsl,.one (.sl id)])(C8:c.argTypes.toList=[t,t])(hi:ap t cx.ty=ZA i)(ha:i.sle=ZA et)(BA:ap et cx.ty=ZA ie)(hr:vw.sw id=ZA r)(hq:r.ty=et/\r.ks.length=ie.size/\0<ie.size/\ie.bytes<=65536)(h:(AK (Bl (dG r.l) (.p EP)) (fun b kw=>if b then k {val:=.one (.sl vw.nid),rr:=[id],re:=.mk [⟨r.ks,et,r.l,ZB,.sl⟩]} kw else .panic) kw).holds sp G U I)(hg:Good sp cx.sm U kw):Sound P sp U G I base cx vw o k kw:=by
 obtain⟨Cc,h1,g1,_,l1⟩:=aO _ _ _ h hg;rw[dh,dF]at h1;split at h1
 .rename_i Ee;have KO:((r.l.R U).length:Int)<1073741824:=Ah Ee;refine⟨_,Cc,h1,g1,l1,fun j a w hb Au By Ca BQ Ef K Q hK=> ?_⟩;obtain⟨s,hs,Aj⟩:=BQ.sl id (by simp) r hr;obtain⟨u1,u2,B3,Kk,Iy⟩:=QI (j:=j) (a:=a) hl (fun x hx=>Au x Xp);have e1:=Xi Kk;have e2:=tM hs Iy;subst e1 e2;have hu:=(hT _ _ (af hi)).sle et ha;obtain⟨CL,z,C7,Cy,EB,hz,Ih,II⟩:=(hT _ _ (af BA)).info;have Dx:c.argTypes = #[t,t]:=Xu;have hn:=Aj.n;have DD:=Aj.rd;rw[hq.2.1,<-Cy]at DD;obtain⟨s',w',h2,h3,h4,h5,h6,h7⟩:=ew (P:=P) (base:=w.heap.size) (ty:=o.type) hu C7 hz Yz Fn (World.ownsRow_nil w w.heap.size et CL.size) DD uE Ye
   (by
    have:(0+s.n)*CL.bytes<=1073741824*65536:=Nat.mul_le_mul Fn Fn;omega) (ZK _)
  simp only[bP,YP]at h3 h4;rw[Cy,<-hq.2.1,<-h3]at h4;refine dH (w':=w') (v:=s'.v) ?_ (hK _ (j.putL vw.nid [s']) _ Tx (ov (Ext.of_grown h5) (RowOk.mk_own (r:=⟨r.ks,et,r.l,ZB,.sl⟩) rfl (by rw[h3];exact hn) Aj.rows Aj.pos h4) rfl rfl));simp only[execOp,Ad,resolve,hc,B3,Dx,ZI,Sem.run_pure,Result.andThen_ok,invoke,builtin,h2]
 .exact h1.elim
def acO(hT:∀t i,(t,i)∈cx.ty->TIok P t i)(Ad:o.op=.call c)(hc:c.callee=.builtin .append){old id:Nat}(hl:Ew vw.ev c.args.toList=ZA [.one (.sl old),.one (.sl id)])(C8:c.argTypes.toList=[t,t])(hi:ap t cx.ty=ZA i)(ha:i.sle=ZA et)(BA:ap et cx.ty=ZA ie)(hr:vw.sw id=ZA r)(RD:vw.sw old=ZA q)(hq:r.ty=et/\r.ks.length=ie.size/\0<ie.size/\ie.bytes<=65536)(GQ:q.own=ZB/\q.ty=et/\q.ks=r.ks)(h:(AK (im (Bl (dG q.l) (.p EP)) (Bl (dG r.l) (.p EP))) (fun b kw=>if b then k {val:=.one (.sl vw.nid),rr:=[old,id],re:=.app old ⟨r.ks,et,DR q.l r.l,ZB,.sl⟩} kw else .panic) kw).holds sp G U I)(hg:Good sp cx.sm U kw):Sound P sp U G I base cx vw o k kw:=by
 obtain⟨Cc,h1,g1,_,l1⟩:=aO _ _ _ h hg;rw[dV,dh,dh,dF,dF]at h1;split at h1
 .rename_i Ee;rw[ne]at Ee;have Iv:((q.l.R U).length:Int)<1073741824:=Ah Ee.1;have DU:((r.l.R U).length:Int)<1073741824:=Ah Ee.2;refine⟨_,Cc,h1,g1,l1,fun j a w hb Au By Ca BQ Ef K Q hK=> ?_⟩;obtain⟨s,hs,Aj⟩:=BQ.sl id (by simp) r hr;obtain⟨p,hp,GP⟩:=BQ.sl old (by simp) q RD;obtain⟨u1,u2,B3,Kk,Iy⟩:=QI (j:=j) (a:=a) hl (fun x hx=>Au x Xp);have e1:=tM hp Kk;have e2:=tM hs Iy;subst e1 e2;have hu:=(hT _ _ (af hi)).sle et ha;obtain⟨CL,z,C7,Cy,EB,hz,Ih,II⟩:=(hT _ _ (af BA)).info;have Dx:c.argTypes = #[t,t]:=Xu;have hn:=Aj.n;have hpn:=GP.n;have AL:=GP.own GQ.1;rw[GQ.2.1,GQ.2.2,hq.2.1,<-Cy]at AL;have DD:=Aj.rd;rw[hq.2.1,<-Cy]at DD;obtain⟨s',w',h2,h3,h4,h5,h6,h7⟩:=ew (P:=P) (base:=base) (ty:=o.type) hu C7 hz Yz Fn AL DD uE Ye
   (by
    have:(p.n+s.n)*CL.bytes<=2147483648*65536:=Nat.mul_le_mul Fn Fn;omega) hb
  rw[<-qC,Cy,<-hq.2.1,<-h3]at h4;have hR:(DR q.l r.l).R U=q.l.R U++r.l.R U:=anp U _ _;refine dH (w':=w') (v:=s'.v) ?_ (hK _ (j.putS vw.nid s') _ afs ⟨p,s',hp,h5,RowOk.mk_own (r:=⟨r.ks,et,DR q.l r.l,ZB,.sl⟩) rfl ?_ ⟨fun x hx=> ?_,?_⟩ Aj.pos (by simp only[hR];exact h4),h6,Zin.nil h7,rfl,fun e=>by cases e⟩)
  .simp only[execOp,Ad,resolve,hc,B3,Dx,ZI,Sem.run_pure,Result.andThen_ok,invoke,builtin,h2]
  .simp only[hR,eo];omega
  .simp only[hR,ZY]at hx;rcases hx with hx|hx
   .have:=GP.rows.row x hx;rw[GQ.2.2]at this;exact this
   .exact Aj.rows.row x hx
  .simp only[hR,eo,maxLen];omega
 .exact h1.elim
end
open Go.Sort (mapBlock onCells setCell_eq mapBlock_mapBlock mapBlock_congr)
section
variable {P:Program}{sp:Spec}{U:Env}{G:Env->E->Prop}{I:Nat->List Dt->Prop}{base:Nat}{cx:Cx}{vw:Vw}{o:Oper}{k:Eff->Kw->Tr}
def QC(e:E)(n:Nat):(Ks e n).B U=(decide (0<=e.I U)&&decide (e.I U<(n:Int))):=by
 unfold Ks;rw[dV,dn,dh,dh];show(!decide (e.I U<0)&&decide (e.I U<(n:Int)))=_;congr 1;by_cases h:e.I U<0
 .rw[dm h,ff (by omega:¬0<=e.I U)];rfl
 .rw[ff h,dm (by omega:0<=e.I U)];rfl
def abE{o:Nat}{fo:Nat}(h:(C.pe b o n sz e off).den U j=ZA v):∃a,v=.pointer (ZA a)/\(C.pe b o n sz e (off+fo)).den U j=ZA (.pointer (ZA (a.add fo))):=by simp only[C.den,Ay]at h;obtain⟨kk,hk,rfl⟩:=h;exact⟨_,rfl,by simp only[C.den,hk,YR,bB];congr 4;omega⟩
def tD(Ad:o.op=.nilCheck x)(hx:vw.ev x=ZA (.one (.pe b o0 n sz e off)))(h:(k {val:=.one (.pe b o0 n sz e off)} kw).holds sp G U I)(hg:Good sp cx.sm U kw):Sound P sp U G I base cx vw o k kw:=by refine⟨_,kw,h,hg,.refl _,OpOk.pure fun j a w _ Au _ _ _=>⟨a.eval x,Au x Or _ hx,?_⟩⟩;have hd:=Au x Or _ hx;obtain⟨a',he,_⟩:=abE (fo:=0) (show(C.pe b o0 n sz e off).den U j=ZA (a.eval x)from hd);simp[execOp,Ad,he]
def apM{o:Nat}(h:(V.one (.pe b o n sz e off)).den U j=ZA v):∃kk,j.b b=ZA kk/\v=.pointer (ZA ⟨kk,o+((e.I U).toNat*sz+off),ZE⟩):=by simp only[V.den,C.den,Ay]at h;obtain⟨kk,h1,h2⟩:=h;exact⟨kk,h1,h2.symm⟩
def vD(hT:∀t i,(t,i)∈cx.ty->TIok P t i)(Ad:o.op=.indexAddr t x y)(hx:vw.ev x=ZA (.one (.ptr b off)))(hy:vw.ev y=ZA (.one (.int k0 e)))(hi:ap t cx.ty=ZA i)(ha:i.arr=ZA (n,et))(BA:ap et cx.ty=ZA ie)(h:(AK (Ks e n) (fun ok kw=>if ok then k {val:=.one (.pe b off n ie.size e 0)} kw else .panic) kw).holds sp G U I)(hg:Good sp cx.sm U kw):Sound P sp U G I base cx vw o k kw:=by
 obtain⟨Cc,g1,q1,_,l1⟩:=aO _ _ _ h hg;rw[QC]at g1;split at g1
 .rename_i hr;rw[ne,aE,aE]at hr;have hu:=(hT _ _ (af hi)).arr n et ha;have hs:=(hT _ _ (af BA)).size;refine⟨_,Cc,g1,q1,l1,OpOk.pure fun j a w _ Au _ _ _=> ?_⟩;obtain⟨kk,hk,he⟩:=mH (Au x Or _ hx);have hq:=cF (Au y Or _ hy);refine⟨.pointer (ZA ⟨kk,off+((e.I U).toNat*ie.size+0),ZE⟩),by simp[V.den,C.den,hk],?_⟩;have JJ:(⟨kk,off,ZE⟩:Addr).add ((e.I U).toNat*ie.size)=⟨kk,off+((e.I U).toNat*ie.size+0),ZE⟩:=by rw[bB];simp
  simp[execOp,Ad,he,hq,Instr.indexAt,run_underlying hu,ZW,asIntOf,hr,hs,ZI,JJ]
 .exact g1.elim
def aiL{j:J}{k0:IntKind}{sz c:Nat}:∀(n:Nat) (cs:List C) (l:E) (vs:List Value),LR k0 sz c n cs=ZA l->Af U j cs=ZA vs->∀m,m<n->vs[m*sz+c]? =ZA (.int k0 ((l.L U).getD m 0))
 |0,cs,l,vs,_,_,m,hm=>ai hm Fn
 |n+1,cs,l,vs,h,hd,m,hm=>by
   simp only[LR]at h;split at h
   .rename_i k' a t h1 h2;split at h
    .rename_i hk;cases h;cases m with
     |zero=>obtain⟨v,h3,h4⟩:=dP hd c _ h1;rw[Nat.zero_mul,bP,h3,<-h4,ax hk];simp[C.den,E.L]
     |succ m=>have ih:=aiL n _ t _ h2 (ku hd sz) m Fn;rw[List.getElem?_drop]at ih;rw[show(m+1)*sz+c=sz+(m*sz+c) by rw[Nat.succ_mul];omega,ih];simp[E.L]
    .exact Xo
   .exact Xo
def uK{j:J}{e:E}{n sz:Nat}{cs:List C}{vs:List Value}(hd:Af U j cs=ZA vs)(h0:0<=e.I U)(h1:e.I U<(n:Int)):∀(m c:Nat) (ds:List C),zC e n sz cs c m=ZA ds->ds.length=m/\Af U j ds=ZA ((vs.drop ((e.I U).toNat*sz+c)).take m)
 |0,c,ds,h=>by cases h;simp[Af]
 |m+1,c,ds,h=>by
   simp only[zC]at h;split at h
   .rename_i k0 a hc;split at h
    next l r h2 h3=>cases h;obtain⟨e1,e2⟩:=uK hd h0 h1 m (c+1) r h3;have e3:=aiL n cs l vs h2 hd (e.I U).toNat Fn;refine⟨by simp[e1],?_⟩;simp only[Af,C.den,E.I,e2];have As:=(cZ.1 e3).1;rw[List.drop_eq_getElem_cons As,List.take_succ_cons,(cZ.1 e3).2];rfl
    .exact Xo
   .exact Xo
def afa(hT:∀t i,(t,i)∈cx.ty->TIok P t i)(Ad:o.op=.load t x)(hx:vw.ev x=ZA (.one (.pe b o0 n sz e off)))(hi:ap t cx.ty=ZA i){cs:List C}(CS:vw.row b o0 (n*sz)=ZA cs)(BR:off+i.size<=sz)
  (h:(AK (Ks e n) (fun ok kw=>if ok then
      (match zC e n sz cs off i.size with
      |some ds=>if i.agg then k {val:=.agg ds,rd:=eb b o0 (n*sz)} kw else(match ds with
        |[d]=>k {val:=.one d,rd:=eb b o0 (n*sz)} kw
        |_=>.stuck 160)
      |none=>.stuck 161)
      else .stuck 162) kw).holds sp G U I) (hg:Good sp cx.sm U kw):Sound P sp U G I base cx vw o k kw:=by
 obtain⟨Cc,g1,q1,_,l1⟩:=aO _ _ _ h hg;rw[QC]at g1;split at g1
 .rename_i hr;rw[ne,aE,aE]at hr;have ht:=hT _ _ (af hi);have AW:=vw.rowok _ _ _ _ CS;split at g1
  .rename_i ds Br;have cells:∀{j:J} {w:World} {kk:Nat},j.b b=ZA kk->E5 U j w vw.ld (eb b o0 (n*sz))->∃us,Af U j ds=ZA us/\us.length=i.size/\∀(m:Nat) u,us[m]? =ZA u->w.cell? ⟨kk,o0+((e.I U).toNat*sz+off)+m,ZE⟩=ZA u:=by
    intro j w kk hk By;obtain⟨vs,hd,-⟩:=eu (P:=P) (U:=U) hk (n*sz) o0 cs AW w By ⟨kk,o0,ZE⟩ 0 #[] (fun m=>by rw[bB];simp);obtain⟨e1,e2⟩:=uK hd hr.1 hr.2 i.size off ds Br;refine⟨_,e2,by rw[aV e2,e1],fun m u hu=> ?_⟩;rw[List.getElem?_take]at hu;split at hu
    .rw[List.getElem?_drop]at hu;obtain⟨hl,Cw⟩:=jW _ _ _ AW;have As:=(cZ.1 hu).1;rw[aV hd]at As;obtain⟨c0,JL⟩:∃c0,cs[(e.I U).toNat*sz+off+m]? =ZA c0:=⟨_,AH As⟩
     have hld:=Cw _ c0 JL;obtain⟨k',v,B2,hv,BB⟩:=By (b,o0+((e.I U).toNat*sz+off+m)) (by
      have:∀(n o p:Nat),p<n->(b,o+p)∈eb b o n:=by
       intro n
       induction n with
       |zero=>intro o p hp;omega
       |succ n ih=>
         intro o p hp;cases p with
         |zero=>simp[eb]
         |succ p=>simp only[eb,YS];exact .inr (by have:=ih (o+1) p Fn;rwa [show o+(p+1)=o+1+p by omega])
      exact this _ _ _ Fn) c0 hld
     simp only at B2 BB;rw[hk]at B2;cases B2;obtain⟨v',CQ,Ib⟩:=dP hd _ c0 JL;rw[hv]at Ib;cases Ib;rw[CQ]at hu;cases hu;rw[ZU];exact BB
    .cases hu
   split at g1
   next Bu=>refine⟨_,Cc,g1,q1,l1,OpOk.pure fun j a w _ Au By _ _=> ?_⟩;obtain⟨kk,hk,he⟩:=apM (Au x Or _ hx);obtain⟨us,h1,h2,h3⟩:=cells hk By;refine⟨.agg us.toArray,by simp[V.den,h1],?_⟩;have HQ:=gP (P:=P) (a:=⟨kk,o0+((e.I U).toNat*sz+off),ZE⟩) (w:=w) us 0 #[] (fun m u hu=>by rw[bP,bB];exact h3 m u hu);rw[h2]at HQ;simp[execOp,Ad,he,Instr.loadAt,ZW,ZI,loadVar,ht.agg,Bu,ht.size,loadCells,HQ]
   .rename_i Bu;split at g1
    .rename_i d;refine⟨_,Cc,g1,q1,l1,OpOk.pure fun j a w _ Au By _ _=> ?_⟩;obtain⟨kk,hk,he⟩:=apM (Au x Or _ hx);obtain⟨us,h1,h2,h3⟩:=cells hk By;simp only[Af]at h1;cases hdd:d.den U j with
     |none=>rw[hdd]at h1;cases h1
     |some v=>rw[hdd]at h1;cases h1;have BB:=h3 0 v rfl;rw[ZR]at BB;have DB:i.agg=ZC:=Yy;refine⟨v,hdd,?_⟩;simp[execOp,Ad,he,Instr.loadAt,ZW,ZI,loadVar,ht.agg,DB,load,Sem.run,BB]
    .exact g1.elim
  .exact g1.elim
 .exact g1.elim
def Ds:Nat->List Value->List Value->List Value
 |off+1,x::xs,us=>x::Ds off xs us
 |0,x::xs,u::us=>u::Ds 0 xs us
 |_,xs,_=>xs
def iP:∀(off:Nat) (xs us:List Value) (p:Nat),(Ds off xs us)[p]? =if off<=p/\p<off+us.length/\p<xs.length then us[p-off]? else xs[p]?
 |off+1,x::xs,us,0=>by simp[Ds]
 |off+1,x::xs,us,p+1=>by
   simp only[Ds,mj,iP off xs us p,YQ];by_cases h:off<=p/\p<off+us.length/\p<xs.length
   .rw[ae h,ae Fn];congr 1;omega
   .rw[aa h,aa Fn]
 |0,x::xs,u::us,0=>by simp[Ds]
 |0,x::xs,u::us,p+1=>by
   simp only[Ds,mj,iP 0 xs us p,YQ];by_cases h:0<=p/\p<0+us.length/\p<xs.length
   .rw[ae h,ae Fn];simp
   .rw[aa h,aa Fn]
 |0,x::xs,[],p=>by rw[aa (by simp)];rfl
 |0,[],us,p=>by cases us<;>simp[Ds]
 |off+1,[],us,p=>by simp[Ds]
def dU:∀(off:Nat) (xs us:List Value),(Ds off xs us).length=xs.length
 |off+1,x::xs,us=>by simp[Ds,dU off xs us]
 |0,x::xs,u::us=>by simp[Ds,dU 0 xs us]
 |0,x::xs,[]=>rfl
 |0,[],us=>by cases us<;>rfl
 |off+1,[],us=>rfl
def yw{j:J}{c:E}:∀(off:Nat) (xs vc r:List C) (vs us:List Value),FU c off xs vc=ZA r->Af U j xs=ZA vs->Af U j vc=ZA us->Af U j r=ZA (if c.B U=ZB then Ds off vs us else vs)
 |off+1,x::xs,vc,r,vs,us,h,h1,h2=>by
   simp only[FU,Ay]at h;obtain⟨r',h3,rfl⟩:=h;simp only[Af]at h1;cases hx:x.den U j with
   |none=>rw[hx]at h1;cases h1
   |some v=>
     cases hl:Af U j xs with
     |none=>rw[hx,hl]at h1;cases h1
     |some l=>rw[hx,hl]at h1;cases h1;simp only[Af,hx,yw off xs vc r' l us h3 hl h2];split<;>simp[Ds]
 |0,xs,[],r,vs,us,h,h1,h2=>by
   cases h2;have:r=xs:=by cases xs<;>simpa[FU]using h.symm
   subst this;rw[h1];cases vs<;>simp[Ds]
 |0,x::xs,y::vc,r,vs,us,h,h1,h2=>by
   cases x<;>first|(simp only[FU]at h;cases h;done)|skip
   cases y<;>first|(simp only[FU]at h;cases h;done)|skip
   rename_i k a k' b;simp only[FU]at h;split at h
   .rename_i hk;rw[Ay]at h;obtain⟨r',h3,rfl⟩:=h;simp only[Af,C.den]at h1 h2;cases hl:Af U j xs with
    |none=>rw[hl]at h1;cases h1
    |some l=>
      cases hm:Af U j vc with
      |none=>rw[hm]at h2;cases h2
      |some m=>rw[hl]at h1;cases h1;rw[hm]at h2;cases h2;simp only[Af,C.den,E.I,yw 0 xs vc r' l m h3 hl hm];split<;>simp[Ds,ax hk]
   .exact Xo
 |0,[],y::vc,r,vs,us,h,h1,h2=>by simp[FU]at h
 |off+1,[],vc,r,vs,us,h,h1,h2=>by simp[FU]at h
def ah0{j:J}{e:E}{off sz:Nat}{vc:List C}{us:List Value}(hu:Af U j vc=ZA us)(BR:off+us.length<=sz)(h0:0<=e.I U):∀(n m0:Nat) (cs ds:List C) (vs:List Value),K9 e off sz vc m0 n cs=ZA ds->Af U j cs=ZA vs->vs.length=n*sz->
  Af U j ds=ZA (if m0<=(e.I U).toNat/\(e.I U).toNat<m0+n then Ds (((e.I U).toNat-m0)*sz+off) vs us else vs)
 |0,m0,cs,ds,vs,h,hd,hl=>by cases h;rw[aa Fn,hd]
 |n+1,m0,cs,ds,vs,h,hd,hl=>by
   simp only[K9]at h;split at h
   .rename_i a b h1 h2;cases h;have e1:=yw off _ _ _ _ _ h1 (mV hd sz) hu;have HO:(vs.drop sz).length=n*sz:=by rw[List.length_drop,hl,Nat.succ_mul];omega
    have e2:=ah0 hu BR h0 n (m0+1) _ _ _ h2 (ku hd sz) HO;have DC:sz<=vs.length:=Yn;rw[gB e1 e2];congr 1;have hB:(E.eq e (.p (m0:Int))).B U=decide ((e.I U).toNat=m0):=by simp only[E.B,E.I];rw[ao];simp only[cQ,aE];omega
    rw[hB];generalize (e.I U).toNat=M;apply List.ext_getElem?;intro p;have tl:(vs.take sz).length=sz:=by rw[YZ];omega
    by_cases hM:M=m0
    .subst hM;rw[ae (by simp),aa Fn,ae Fn,Nat.sub_self,Nat.zero_mul,bP,iP];by_cases hp:p<sz
     .rw[A9 (by rw[dU,tl];exact hp),iP,tl,List.getElem?_take,ae hp];by_cases hq:off<=p/\p<off+us.length/\p<sz
      .rw[ae hq,ae Fn]
      .rw[aa hq,aa Fn]
     .rw[Bo (by rw[dU,tl];omega),dU,tl,List.getElem?_drop,aa Fn];congr 1;omega
    .rw[aa (by simpa using hM)];by_cases hr:m0+1<=M/\M<m0+1+n
     .rw[ae hr,ae Fn,iP];have hmul:(M-m0)*sz=sz+(M-(m0+1))*sz:=by
       rw[show M-m0=(M-(m0+1))+1 by omega,Nat.succ_mul];omega
      by_cases hp:p<sz
      .rw[A9 (by rw[tl];exact hp),List.getElem?_take,ae hp,aa Fn]
      .rw[Bo (by rw[tl];omega),tl,iP,List.getElem?_drop,HO];have Gy:sz+(p-sz)=p:=Fn;rw[Gy];have AZ:vs.length=sz+n*sz:=Yn;by_cases hq:(M-(m0+1))*sz+off<=p-sz/\p-sz<(M-(m0+1))*sz+off+us.length/\p-sz<n*sz
       .rw[ae hq,ae Fn];congr 1;omega
       .rw[aa hq,aa Fn]
     .rw[aa hr,aa Fn,List.take_append_drop]
   .exact Xo
def Gs:Nat->List Value->Array Value->Array Value
 |_,[],c=>c
 |o,v::vs,c=>Gs (o+1) vs (c.setIfInBounds o v)
def ub:∀(vs:List Value) (o:Nat) (c:Array Value) (i:Nat),(Gs o vs c)[i]? =if o<=i/\i<o+vs.length/\i<c.size then vs[i-o]? else c[i]?
 |[],o,c,i=>by rw[aa (by simp only[List.length_nil];omega)];rfl
 |v::vs,o,c,i=>by
   simp only[Gs,ub vs (o+1),Array.size_setIfInBounds,YQ];rcases Nat.lt_trichotomy i o with h|h|h
   .rw[aa Fn,aa Fn,Array.getElem?_setIfInBounds,aa Fn]
   .subst h;rw[aa Fn,Array.getElem?_setIfInBounds,ae rfl];by_cases hs:i<c.size
    .rw[ae hs,ae Fn];simp
    .rw[aa hs,aa Fn,Array.getElem?_eq_none Fn]
   .by_cases hq:o+1<=i/\i<o+1+vs.length/\i<c.size
    .rw[ae hq,ae Fn,show i-o=(i-(o+1))+1 by omega];rfl
    .rw[aa hq,aa Fn,Array.getElem?_setIfInBounds,aa Fn]
def nl{j:J}{b kk:Nat}(hk:j.b b=ZA kk):∀(cs:List C) (o:Nat) (vs:List Value) (w:World),Af U j cs=ZA vs->sN U j (eN b o cs) w (mapBlock w kk (Gs o vs))/\∀w',sN U j (eN b o cs) w w'->w'=mapBlock w kk (Gs o vs)
 |[],o,vs,w,hd=>by cases hd;have e:mapBlock w kk (Gs o [])=w:=Go.Sort.mapBlock_id w kk _ (fun c e fr _=>rfl);rw[e];exact⟨rfl,fun w' h=>h⟩
 |c::cs,o,vs,w,hd=>by
   simp only[Af]at hd;cases hc:c.den U j with
   |none=>rw[hc]at hd;cases hd
   |some v=>
     cases hl:Af U j cs with
     |none=>rw[hc,hl]at hd;cases hd
     |some l=>
       rw[hc,hl]at hd;cases hd;obtain⟨i1,i2⟩:=nl hk cs (o+1) l (w.setCell ⟨kk,o,ZE⟩ v) hl;have e:mapBlock (w.setCell ⟨kk,o,ZE⟩ v) kk (Gs (o+1) l)=mapBlock w kk (Gs o (v::l)):=by rw[setCell_eq,mapBlock_mapBlock];rfl
       rw[e]at i1 i2;refine⟨⟨kk,v,hk,hc,i1⟩,?_⟩;rintro w' ⟨k2,v2,g1,g2,g3⟩;rw[hk]at g1;cases g1;rw[hc]at g2;cases g2;exact i2 w' g3
def wE{b:Nat}:∀(n o p:Nat),p<n->(b,o+p)∈eb b o n
 |0,_,_,h=>ai h Fn
 |n+1,o,0,_=>by simp[eb]
 |n+1,o,p+1,h=>by simp only[eb,YS];have:=wE (b:=b) n (o+1) p Fn;rw[show o+1+p=o+(p+1) by omega]at this;exact .inr this
def wD{b:Nat}:∀(cs:List C) (o p:Nat) (c:C),cs[p]? =ZA c->(b,o+p,c)∈eN b o cs
 |[],_,_,_,h=>by simp at h
 |x::cs,o,0,c,h=>by simp at h;subst h;simp[eN]
 |x::cs,o,p+1,c,h=>by simp only[eN,YS];have:=wD (b:=b) cs (o+1) p c Xx;rw[show o+1+p=o+(p+1) by omega]at this;exact .inr this
def abe{b:Nat}:∀(cs:List C) (o:Nat) (q:Nat×Nat×C),q∈eN b o cs->q.1=b/\∃p,p<cs.length/\q.2.1=o+p
 |[],_,q,h=>by simp[eN]at h
 |x::cs,o,q,h=>by
   simp only[eN,YS]at h;rcases h with rfl|h
   .exact⟨rfl,0,by simp,rfl⟩
   .obtain⟨h1,p,h2,h3⟩:=abe cs (o+1) q h;exact⟨h1,p+1,by simp;omega,by omega⟩
def acI(hT:∀t i,(t,i)∈cx.ty->TIok P t i)(Ad:o.op=.store t x y)(hx:vw.ev x=ZA (.one (.pe b o0 n sz e off))){v:V}(hy:vw.ev y=ZA v)(hi:ap t cx.ty=ZA i){cs:List C}(CS:vw.row b o0 (n*sz)=ZA cs)
  (hf:v.flat=ZB) (hn:v.cells.length=i.size) (BR:off+i.size<=sz) (CY:cs.length=n*sz)
  (h:(AK (Ks e n) (fun ok kw=>if ok then
      (match K9 e off sz v.cells 0 n cs with
      |some ds=>if ds.all C.solid&&(cs.all C.solid&&v.cells.all C.solid)then k {val:=.one .undef,rd:=eb b o0 (n*sz),wr:=eN b o0 ds} kw else .stuck 165
      |none=>.stuck 166)
      else .stuck 167) kw).holds sp G U I) (hg:Good sp cx.sm U kw):Sound P sp U G I base cx vw o k kw:=by
 obtain⟨Cc,g1,q1,_,l1⟩:=aO _ _ _ h hg;rw[QC]at g1;split at g1
 .rename_i hr;rw[ne,aE,aE]at hr;have ht:=hT _ _ (af hi);have AW:=vw.rowok _ _ _ _ CS;split at g1
  .rename_i ds Br;split at g1
   .rename_i Ek;simp only[ne]at Ek;refine⟨_,Cc,g1,q1,l1,fun j a w _ Au By Ca _ _ K Q hK=> ?_⟩;obtain⟨kk,hk,he⟩:=apM (Au x Or _ hx);have hd:=V.cells_ok (Au y Or v hy) hf;obtain⟨vs,EN,-⟩:=eu (P:=P) (U:=U) hk (n*sz) o0 cs AW w By ⟨kk,o0,ZE⟩ 0 #[] (fun m=>by rw[bB];simp);have hul:(a.eval y).cells.toList.length=i.size:=by rw[aV hd,hn]
    have Qa:vs.length=n*sz:=by rw[aV EN,CY]
    have K2:=ah0 hd (by rw[hul];exact BR) hr.1 n 0 cs ds vs Br EN Qa;rw[ae Fn,Nat.sub_zero]at K2;generalize hM:(e.I U).toNat=M at *;have hMn:M<n:=Fn;have hMs:M*sz+off+i.size<=n*sz:=by have:(M+1)*sz<=n*sz:=Nat.mul_le_mul_right sz hMn;rw[Nat.succ_mul]at this;omega
    have old:∀p,p<n*sz->w.cell? ⟨kk,o0+p,ZE⟩=vs[p]? :=by
     intro p hp;obtain⟨hl,Cw⟩:=jW _ _ _ AW;obtain⟨c0,JL⟩:∃c0,cs[p]? =ZA c0:=⟨_,AH Fn⟩
     obtain⟨k',v',B2,CQ,BB⟩:=By (b,o0+p) (wE _ _ _ hp) c0 (Cw _ c0 JL);simp only at B2 BB;rw[hk]at B2;cases B2;obtain⟨v2,IG,Iy⟩:=dP EN p c0 JL;rw[CQ]at Iy;cases Iy;rw[BB,IG]
    have hdl:ds.length=n*sz:=by have:=aV K2;rw[dU]at this;omega
    have Kr:LI j w (eN b (o0+(M*sz+off)) v.cells):=by
     intro q hq;obtain⟨e1,p,e2,e3⟩:=abe _ _ _ hq;obtain⟨c1,Q2⟩:∃c1,ds[M*sz+off+p]? =ZA c1:=⟨_,AH Fn⟩
     obtain⟨k3,u3,f1,f2,f3⟩:=Ca _ (wD ds o0 _ c1 Q2);refine⟨k3,u3,by rw[e1];exact f1,?_,?_⟩
     .rw[e3,ZU];exact f2
     .rw[e3,ZU];exact f3
    obtain⟨w',h1,h2⟩:=dK (P:=P) hk ⟨kk,o0+(M*sz+off),ZE⟩ v.cells (o0+(M*sz+off)) 0 _ w (fun m=>by rw[bB];simp) hd Ek.2.2 Kr;have e1:=(nl hk v.cells _ _ w hd).2 w' h1;have e2:=(nl hk ds o0 _ w K2).1;have e3:mapBlock w kk (Gs (o0+(M*sz+off)) (a.eval y).cells.toList)=mapBlock w kk (Gs o0 (Ds (M*sz+off) vs (a.eval y).cells.toList)):=by
     refine mapBlock_congr w kk _ _ fun c ec fr hc=> ?_;have oldc:∀p,p<n*sz->c[o0+p]? =vs[p]? :=fun p hp=>by have:=old p hp;rw[<-this];simp[World.cell?,hc]
     apply Array.ext_getElem?;intro q;rw[ub,ub,dU,Qa];by_cases hq:o0<=q/\q<o0+n*sz/\q<c.size
     .rw[ae hq,iP];by_cases GQ:M*sz+off<=q-o0/\q-o0<M*sz+off+(a.eval y).cells.toList.length/\q-o0<vs.length
      .rw[ae GQ,ae Fn];congr 1;omega
      .rw[aa GQ,aa Fn,<-oldc (q-o0) Fn];congr 1;omega
     .rw[aa hq,aa Fn]
    rw[e3]at e1;have OR:(a.eval y).cells.size=i.size:=by rw[<-Array.length_toList];exact hul
    refine uW (w':=w') ?_ (hK _ j w' rfl ⟨rfl,w,Ext.refl w,by rw[e1];exact e2⟩);simp[execOp,Ad,he,Instr.storeAt,ZW,ZI,storeVar,ht.size,OR,h2]
   .exact g1.elim
  .exact g1.elim
 .exact g1.elim
end
section
variable {P:Program}{sp:Spec}{U:Env}{G:Env->E->Prop}{I:Nat->List Dt->Prop}{base:Nat}{cx:Cx}{vw:Vw}{o:Oper}{k:Eff->Kw->Tr}
def ap6{f:E->E->E}{g:Int->Int->Int}(hf:∀a b,(f a b).I U=g (a.I U) (b.I U)){m2:Value->Value->Sem Value}{k0:IntKind}(hm:∀x y w,(m2 (.int k0 x) (.int k0 y)).run P w=.ok (.int k0 (g x y)) w){j:J}:
  ∀(l:List V) (e e':E) (us:List Value),M6 f k0 e l=ZA e'->(∀(i:Nat) x u,l[i]? =ZA x->us[i]? =ZA u->x.den U j=ZA u)->us.length=l.length->∀w,(us.foldlM m2 (.int k0 (e.I U))).run P w=.ok (.int k0 (e'.I U)) w
 |[],e,e',us,h,hu,hl,w=>by
   cases h;cases us with
   |nil=>simp
   |cons _ _=>cases hl
 |v::l,e,e',us,h,hu,hl,w=>by
   cases us with
   |nil=>cases hl
   |cons u us=>
     cases v with
     |one c=>
       cases c with
       |int kd x=>
         simp only[M6]at h;split at h
         next hk=>have:=ax hk;subst this;have h1:=cF (hu 0 _ u rfl rfl);subst h1;have h2:=ap6 hf hm l (f e x) e' us h (fun i y u hy JQ=>hu (i+1) y u Yx (by simpa using JQ)) Yf w;rw[hf]at h2;simp only[List.foldlM_cons,ZI,hm,Result.andThen_ok,h2]
         .exact Xo
       |_=>simp[M6]at h
     |_=>simp[M6]at h
def fQ:(c.args.map a.eval).toList=c.args.toList.map a.eval:=Array.toList_map ..
def amj(mx:Bool)(Ad:o.op=.call c)(hc:c.callee=.builtin (if mx then .max else .min)){e':E}{l:List V}(hl:Ew vw.ev c.args.toList=ZA (.one (.int k0 e)::l))(he:M6 (if mx then QG else QF) k0 e l=ZA e')(h:(k {val:=.one (.int k0 e')} kw).holds sp G U I)(hg:Good sp cx.sm U kw):Sound P sp U G I base cx vw o k kw:=by
 refine⟨_,kw,h,hg,.refl _,OpOk.pure fun j a w _ Au _ _ _=>⟨.int k0 (e'.I U),rfl,?_⟩⟩;obtain⟨h1,h2⟩:=jn (j:=j) (a:=a) hl (fun x hx=>Au x Xp);obtain⟨u,us,Md⟩:∃u us,c.args.toList.map a.eval=u::us:=by
  cases hm:c.args.toList.map a.eval with
  |nil=>rw[hm]at h2;cases h2
  |cons u us=>exact⟨u,us,rfl⟩
 rw[Md]at h1 h2;have hu:=cF (h1 0 _ u rfl rfl);subst hu;have MT:(c.args.map a.eval).toList=.int k0 (e.I U)::us:=by rw[fQ,Md]
 cases mx with
 |true=>have h3:=ap6 (P:=P) (U:=U) (f:=QG) (g:=max) (ap8 U) (m2:=Builtin.max2) (k0:=k0) (fun x y w=>by simp[Builtin.max2,qr.2]) l e e' us YA (fun i x u hx hu=>h1 (i+1) x u Xz X2) XR w;simp only[execOp,Ad,resolve,hc,bm,ZI,Sem.run_pure,Result.andThen_ok,invoke,builtin,Builtin.max_,MT,h3]
 |false=>have h3:=ap6 (P:=P) (U:=U) (f:=QF) (g:=min) (ap7 U) (m2:=Builtin.min2) (k0:=k0) (fun x y w=>by simp[Builtin.min2,qr.1]) l e e' us YA (fun i x u hx hu=>h1 (i+1) x u Xz X2) XR w;simp only[execOp,Ad,resolve,hc,Bool.false_eq_true,eA,ZI,Sem.run_pure,Result.andThen_ok,invoke,builtin,Builtin.min_,MT,h3]
def aun{ks:List CK}(hv:Vk U vk)(hr:(∀(n:Nat) k,ks[n]? =ZA (.int k)->Ae k (U.i (vk.length+n))=ZB)/\∀(n:Nat) k ty,ks[n]? =ZA (.sl k ty)->RowsIn k (U.l (vk.length+n))):Vk U (vk++ks.map xH):=by
 constructor
 .intro n kd h;rcases bC n vk.length with As|DC
  .rw[A9 As]at h;exact hv.i n kd h
  .rw[Bo DC,js,Ay]at h;obtain⟨c,hc,hk⟩:=h;cases c<;>simp only[xH]at hk<;>first|cases hk|skip
   have:=hr.1 _ _ hc;rwa [show vk.length+(n-vk.length)=n by omega]at this
 .intro n kd h;rcases bC n vk.length with As|DC
  .rw[A9 As]at h;exact hv.l n kd h
  .rw[Bo DC,js,Ay]at h;obtain⟨c,hc,hk⟩:=h;cases c<;>simp only[xH]at hk<;>first|cases hk|skip
   have:=hr.2 _ _ _ hc;rwa [show vk.length+(n-vk.length)=n by omega]at this
def aiB(hv:Vk U vk){rw:Nat->Option RowOb}{k:CK}{c:C}{t:E}(h:HD vk rw k c t=ZA e):LQ k (e.D U) (t.D U):=by
 unfold HD at h;split at h
 .split at h
  next hk=>cases h;simp only[ne]at hk;exact⟨_,rfl,E.rng_ok hv _ hk.2⟩
  .exact Xo
 .cases h;exact⟨_,rfl⟩
 .split at h
  .cases h;exact rfl
  .exact Xo
 .split at h
  .cases h;exact rfl
  .exact Xo
 .rw[Ay]at h;obtain⟨l,hl,rfl⟩:=h;refine⟨_,rfl,?_⟩;unfold jt at hl;split at hl
  .split at hl
   .split at hl
    next hq=>simp only[ne]at hq;cases hl;exact E.lok_ok hv _ hq.2.2
    .cases hl
   .cases hl
  .cases hl;intro r hr;cases hr
  .cases hl
 .cases h;exact rfl
 .cases h;exact rfl
 .split at h
  .split at h
   next hq=>simp only[ne]at hq;cases h;exact⟨rfl,hq.2.2⟩
   .exact Xo
  .exact Xo
 .exact Xo
def acg{vk:List VK}(hv:Vk U vk){rw:Nat->Option RowOb}:∀{ks:List CK} {cs:List C} {t e:E},xB vk rw ks cs t=ZA e->PS ks (e.D U) (t.D U)
 |[],[],t,e,h=>by cases h;exact rfl
 |k::ks,c::cs,t,e,h=>by simp only[xB,de]at h;obtain⟨e',h1,h2⟩:=h;exact⟨_,aiB hv h2,acg hv h1⟩
def zy(hv:Vk U vk){rw:Nat->Option RowOb}{ks:List CK}{cs:List C}{t:E}(h:Ir vk rw ks cs t=ZA e):PS ks (e.D U) (t.D U):=acg hv (xA h)
def nI{j:J}{l e:E}:∀(ks:List CE) (c0:Nat),∃vs,Af U j (lc l e c0 ks)=ZA vs/\vs.length=ks.length/\∀(m:Nat) ck,ks[m]? =ZA ck->vs[m]? =ZA (kz ck (gt (l.R U) (e.I U) (c0+m)))
 |[],c0=>⟨[],rfl,rfl,fun m ck h=>by simp at h⟩
 |k::ks,c0=>by
   obtain⟨vs,h1,h2,h3⟩:=nI (j:=j) (l:=l) (e:=e) ks (c0+1);refine⟨kz k (gt (l.R U) (e.I U) c0)::vs,by simp only[lc,Af,tX,h1],by simp[h2],fun m ck h=> ?_⟩;cases m with
   |zero=>simp at h;subst h;simp
   |succ m=>have:=h3 m ck Xx;simpa[ZU,Nat.add_comm 1 m]using this
def at2(hv:Vk U vk){ty id z:Nat}{t x:E}(h:QT vk vw ks id z e t=ZA x):LQ (.el ks ty) (x.D U) (t.D U):=by
 unfold QT at h;split at h
 .rename_i r hr;split at h
  .rw[Ay]at h;obtain⟨q,hq,rfl⟩:=h;obtain⟨vs,h1,_⟩:=nI (U:=U) (j:=⟨fun _=>ZE,fun _=>ZE,fun _=>ZE,Gh.zero⟩) (l:=r.l) (e:=e) ks 0;exact⟨q.L U,rfl,(nH hv hq h1).2⟩
  .exact Xo
 .exact Xo
def atZ(hv:Vk U vk){ty id z:Nat}{t x:E}(BQ:RrOk U base j w vw.rw [id])(De:∀r,vw.sw id=ZA r->(GS e r.l).B U=ZB)(h:QT vk vw ks id z e t=ZA x){u:Value}(hu:(V.one (.ep id z e 0)).den U j=ZA u):xG w (.el ks ty) (x.D U) u (t.D U):=by
 unfold QT at h;split at h
 .rename_i r hr;split at h
  .rename_i hq;rw[Ay]at h;obtain⟨q,hx,rfl⟩:=h;simp only[ne]at hq;have Cq:=cO hq.1;have hz:=Ak hq.2;subst Cq hz;obtain⟨s,hs,Aj⟩:=BQ.sl id (by simp) r hr;obtain⟨a,ha,rfl⟩:=xw hs hu;obtain⟨vs,h1,h2,h3⟩:=nI (U:=U) (j:=j) (l:=r.l) (e:=e) r.ks 0;obtain⟨h4,h5⟩:=nH hv hx h1;have hb:=De r hr;rw[xl]at hb;simp only[ne,aE]at hb;have Ei:0<s.n:=by have:=Aj.n;omega
   have hc:s.c≠0:=by have:=Aj.rd.2.1;omega
   refine⟨q.L U,_,rfl,rfl,h5,Aj.lt _ (bN (mZ hc ?_)),fun c u hcu=> ?_⟩
   .simp only[SV.v,Value.ownBlock,ha];unfold Addr.add;split<;>rfl
   .have E0:flat r.ks [q.L U]=vs:=by rw[h4];simp[flat]
    rw[E0]at hcu;have As:c<r.ks.length:=by rw[<-h2];exact(cZ.1 hcu).1
    have Ea:=AH As;have h6:=h3 c _ Ea;rw[hcu]at h6;cases h6;rw[bP,bS,ZR];exact Aj.rd.2.2.2.2 a ha _ _ (mR Ea Aj.rows.row Fn)
  .exact Xo
 .exact Xo
def alm{x:V}{xs:List V}(h:(K6 vw (x::xs)).B U=ZB):(K6 vw xs).B U=ZB/\∀id z e,x=.one (.ep id z e 0)->∀r,vw.sw id=ZA r->(GS e r.l).B U=ZB:=by
 by_cases hx:∃id z e,x=.one (.ep id z e 0)
 .obtain⟨id,z,e,rfl⟩:=hx;simp only[K6]at h;split at h
  next r hr=>rw[dV,ne]at h;refine⟨h.2,fun Ji z' e' he r' AV=> ?_⟩;cases he;rw[hr]at AV;cases AV;exact h.1
  next hr=>refine⟨h,fun Ji z' e' he r' AV=> ?_⟩;cases he;rw[hr]at AV;cases AV
 .have e:K6 vw (x::xs)=K6 vw xs:=by
   cases x with
   |one c=>cases c with
     |ep id z e o=>cases o with
       |zero=>exact(hx ⟨_,_,_,rfl⟩).elim
       |succ o=>rfl
     |_=>rfl
   |_=>rfl
  rw[e]at h;exact⟨h,fun id z e he=>(hx ⟨_,_,_,he⟩).elim⟩
def aiD{vk:List VK}(hv:Vk U vk):∀{ss:List Sh} {xs:List V} {e:E},Iq vk vw ss xs=ZA e->QJ ss (e.D U)
 |[],[],e,h=>by cases h;exact rfl
 |s::ss,x::xs,e,h=>by
   simp only[Iq,de]at h;obtain⟨e',h1,h2⟩:=h;refine⟨e'.D U,?_,aiD hv h1⟩;unfold Nq at h2;split at h2
   .exact zy hv h2
   .exact⟨_,at2 hv h2,rfl⟩
   .exact⟨_,aiB hv h2,rfl⟩
   .split at h2
    .rw[de]at h2;obtain⟨cs,_,h2⟩:=h2;exact zy hv h2
    .exact XU
   .rw[de]at h2;obtain⟨cs,_,h2⟩:=h2;split at h2
    .exact zy hv h2
    .exact XU
   .exact XU
def aiA(hv:Vk U vk){k:CK}{c:C}{t:E}(BQ:RrOk U base j w vw.rw (fZ [c]))(hd:k=.any->∃v,c.den U j=ZA v)(h:HD vk vw.tw k c t=ZA e):∃v,c.den U j=ZA v/\xG w k (e.D U) v (t.D U):=by
 unfold HD at h;split at h
 .split at h
  next hk=>cases h;simp only[ne]at hk;refine⟨_,rfl,_,rfl,?_,E.rng_ok hv _ hk.2⟩;rw[ax hk.1]
  .exact Xo
 .cases h;exact⟨_,rfl,_,rfl,rfl⟩
 .split at h
  next hg=>cases h;refine⟨_,rfl,rfl,?_⟩;rw[Ak hg]
  .exact Xo
 .split at h
  next hg=>cases h;simp only[ne]at hg;refine⟨_,rfl,rfl,?_⟩;rw[ax hg.1,cX hg.2];rfl
  .exact Xo
 .rw[Ay]at h;obtain⟨l,hl,rfl⟩:=h;unfold jt at hl;split at hl
  .rename_i id;split at hl
   .rename_i r hr;split at hl
    .rename_i hq;simp only[ne]at hq;cases hl;obtain⟨EU,DO⟩:=Vw.tw_some hr;obtain⟨s,hs,Aj,hz⟩:=BQ id (by simp[fZ]) r EU;have Cq:=cO hq.1;subst Cq;refine⟨s.v,by simp[C.den,hs],_,s,rfl,rfl,?_,?_,Aj.rows,fun k hk=>Aj.lt k (bN hk)⟩
     .rcases cH r.ks with⟨_,h1⟩|⟨_,h1⟩
      .exact(Aj.2.2 (DO.trans h1)).n
      .exact(Aj.1 (DO.trans h1)).n
     .unfold TRow;rcases cH r.ks with⟨_,h1⟩|⟨_,h1⟩
      .rw[h1];exact(Aj.2.2 (DO.trans h1)).told ⟨hz.1,hz.2.1⟩
      .rw[h1];exact(Aj.1 (DO.trans h1)).rd
    .cases hl
   .cases hl
  .cases hl;refine⟨_,rfl,[],⟨ZE,0,0,[]⟩,rfl,rfl,rfl,TRow.nil,⟨fun r hr=>(by cases hr),by simp⟩,fun k hk=>(by cases hk)⟩
  .cases hl
 .cases h;exact⟨_,rfl,rfl,rfl⟩
 .cases h;obtain⟨v,hv⟩:=hd rfl;exact⟨v,hv,rfl⟩
 .rename_i L id;split at h
  .rename_i r hr;split at h
   .rename_i hq;simp only[ne]at hq;cases h;obtain⟨EU,DO⟩:=Vw.tw_some hr;obtain⟨s,hs,Aj,hz⟩:=BQ id (by simp[fZ]) r EU;have Cq:=cO hq.1.1;subst Cq;obtain⟨hR,AS,hp,D3⟩:=yR (U:=U) hq.2.2;have hl:r.l.R U=L:=by
     rcases(fy _ _).mp hq.2.1 with h1|h1
     .exact(congrArg (E.R U) (E.same_eq h1)).trans hR
     .rw[E.same_eq h1];exact asg (by have:=hq.2.2;simp only[I5,ne]at this;exact this.1)
    have MW:=Aj.1 (DO.trans D3);refine⟨s.v,by simp[C.den,hs],rfl,hq.2.2,s,rfl,?_,?_,fun k hk=>Aj.lt k (bN hk)⟩
    .rw[<-hl];exact MW.n
    .unfold TRow;rw[D3,<-hl];exact MW.rd
   .exact Xo
  .exact Xo
 .exact Xo
def RrOk.mono{rw:Nat->Option RowOb}{l l':List Nat}(h:RrOk U base j w rw l)(hs:∀x∈l',x∈l):RrOk U base j w rw l':=fun id IA r hr=>h id (hs id IA) r hr
def rJ{c:C}{cs:List C}:(∀x∈fZ [c],x∈fZ (c::cs))/\∀x∈fZ cs,x∈fZ (c::cs):=by cases c<;>simp[fZ]<;>intro x hx<;>exact .inr hx
def acf{vk:List VK}(hv:Vk U vk){j:J}{w:World}:∀{ks:List CK} {cs:List C} {t e:E},RrOk U base j w vw.rw (fZ cs)->(∀c∈cs,CK.any∈ks->∃v,c.den U j=ZA v)->xB vk vw.tw ks cs t=ZA e->∃vs,Af U j cs=ZA vs/\lz w ks (e.D U) vs (t.D U)
 |[],[],t,e,_,_,h=>by cases h;exact⟨[],rfl,rfl,rfl⟩
 |k::ks,c::cs,t,e,BQ,hd,h=>by simp only[xB,de]at h;obtain⟨e',h1,h2⟩:=h;obtain⟨vs,h3,h4⟩:=acf hv (BQ.mono rJ.2) (fun c hc ha=>hd c (cR _ hc) (cR _ ha)) h1;obtain⟨v,h5,h6⟩:=aiA hv (BQ.mono rJ.1) (fun e=>hd c bW (by rw[e];exact bW)) h2;exact⟨v::vs,by simp[Af,h3,h5],v,vs,_,rfl,h6,h4⟩
def zx(hv:Vk U vk){ks:List CK}{cs:List C}{t:E}(BQ:RrOk U base j w vw.rw (fZ cs))(hd:∀c∈cs,CK.any∈ks->∃v,c.den U j=ZA v)(h:Ir vk vw.tw ks cs t=ZA e):∃vs,Af U j cs=ZA vs/\lz w ks (e.D U) vs (t.D U):=acf hv BQ hd (xA h)
def nF{j:J}{w:World}{b kk:Nat}(hj:j.b b=ZA kk):∀{n off:Nat} {cs:List C},jX vw.ld b off n=ZA cs->E5 U j w vw.ld (eb b off n)->cs.length=n/\∃vs,Af U j cs=ZA vs/\∀(m:Nat) u,vs[m]? =ZA u->w.cell? ⟨kk,off+m,ZE⟩=ZA u
 |0,off,cs,h,_=>by cases h;exact⟨rfl,[],rfl,fun m u hu=>by simp at hu⟩
 |n+1,off,cs,h,By=>by
   simp only[jX]at h;cases hc:vw.ld b off with
   |none=>rw[hc]at h;cases h
   |some c=>
     cases hl:jX vw.ld b (off+1) n with
     |none=>rw[hc,hl]at h;cases h
     |some l=>
       rw[hc,hl]at h;cases h;obtain⟨k',v,h1,h2,h3⟩:=By (b,off) (by simp[eb]) c hc;simp only at h1 h3;rw[hj]at h1;cases h1;obtain⟨e0,vs,e1,e2⟩:=nF hj hl (fun p hp=>By p (by simp[eb];exact .inr hp));refine⟨by simp[e0],v::vs,by simp[Af,h2,e1],fun m u hu=> ?_⟩;cases m with
       |zero=>simp at hu;subst hu;exact h3
       |succ m=>have:=e2 m u X2;rwa [show off+(m+1)=off+1+m by omega]
def aiC{vk:List VK}(hv:Vk U vk){j:J}{w:World}:∀{ss:List Sh} {xs:List V} {e:E},RrOk U base j w vw.rw (iJ vw ss xs)->E5 U j w vw.ld (uQ ss xs)->Nd sp.hw U j w vw.fb->Iq vk vw ss xs=ZA e->(K6 vw xs).B U=ZB->∀us:List Value,(∀(i:Nat) x u,xs[i]? =ZA x->us[i]? =ZA u->x.den U j=ZA u)->us.length=xs.length->nB w ss (e.D U) us
 |[],[],e,_,_,_,h,_,us,hu,hl=>by
   cases h;cases us with
   |nil=>exact⟨rfl,rfl⟩
   |cons _ _=>cases hl
 |s::ss,x::xs,e,BQ,By,Ef,h,De,us,hu,hl=>by
   obtain⟨GN,hin2⟩:=alm De;simp only[Iq,de]at h;obtain⟨e',h1,h2⟩:=h;cases us with
   |nil=>cases hl
   |cons u us=>
     have h7:=hu 0 x u rfl rfl;have tail:RrOk U base j w vw.rw (iJ vw ss xs)->E5 U j w vw.ld (uQ ss xs)->nB w ss (e'.D U) us:=fun a b=>aiC hv a b Ef h1 GN us (fun i x u hx JQ=>hu (i+1) x u Xz (by simpa using JQ)) Yf
     unfold Nq at h2;split at h2
     .rename_i ks cs;have Ej:RrOk U base j w vw.rw (fZ cs++iJ vw ss xs):=BQ;have Q4:∀c∈cs,CK.any∈ks->∃v,c.den U j=ZA v:=fun c hc _=>by
       simp only[V.den,Ay]at h7;obtain⟨vs,h8,_⟩:=h7;obtain⟨i,hi⟩:=List.getElem?_of_mem hc;obtain⟨v,_,hv⟩:=dP h8 i c hi;exact⟨v,hv⟩
      obtain⟨vs,h3,h4⟩:=zx hv (Ej.mono (fun x hx=>ZZ _ hx)) Q4 h2;simp only[V.den,h3,YR,bo]at h7;exact⟨vs,us,_,by rw[h7],h4,tail (Ej.mono (fun x hx=>ZV _ hx)) By⟩
     next ks ty id z e0=>have Ej:RrOk U base j w vw.rw (fZ [.ep id z e0 0]++iJ vw ss xs):=BQ;exact⟨_,us,_,rfl,atZ hv (Ej.mono (fun x hx=>ZZ _ hx)) (hin2 id z e0 rfl) h2 h7,tail (Ej.mono (fun x hx=>ZV _ hx)) By⟩
     .rename_i kc c _;have Gk:∀x∈fZ [c]++iJ vw ss xs,x∈iJ vw (.one kc::ss) (.one c::xs):=by
       intro x hx;cases c<;>exact hx
      have Ej:=BQ.mono Gk;obtain⟨v,h3,h4⟩:=aiA hv (Ej.mono (fun x hx=>ZZ _ hx)) (fun _=>⟨u,h7⟩) h2;have h7':c.den U j=ZA u:=h7;rw[h3]at h7';cases h7';have DD:E5 U j w vw.ld (uQ ss xs):=by intro p hp;refine By p ?_;cases c<;>exact hp
      exact⟨_,us,_,rfl,h4,tail (Ej.mono (fun x hx=>ZV _ hx)) DD⟩
     .rename_i ks b;split at h2
      .rename_i Ei;rw[de]at h2;obtain⟨cs,CS,h2⟩:=h2;have Ej:RrOk U base j w vw.rw (fZ cs++iJ vw ss xs):=by
        have:iJ vw (.ptr ks::ss) (.one (.ptr b 0)::xs)=fZ cs++iJ vw ss xs:=by simp only[iJ,CS]
        rw[<-this];exact BQ
       have RC:E5 U j w vw.ld (eb b 0 ks.length):=fun p hp=>By p (ZZ _ hp);have hrd2:E5 U j w vw.ld (uQ ss xs):=fun p hp=>By p (ZV _ hp);obtain⟨kk,hk,rfl⟩:=mH h7;have Q4:∀c∈cs,CK.any∈ks->∃v,c.den U j=ZA v:=fun c hc _=>by obtain⟨_,vs,h8,_⟩:=nF (U:=U) (w:=w) hk (vw.rowok _ _ _ _ CS) RC;obtain⟨i,hi⟩:=List.getElem?_of_mem hc;obtain⟨v,_,hv⟩:=dP h8 i c hi;exact⟨v,hv⟩
       obtain⟨vs,h3,h4⟩:=zx hv (Ej.mono (fun x hx=>ZZ _ hx)) Q4 h2;obtain⟨AZ,Cw⟩:=jW _ _ _ (vw.rowok _ _ _ _ CS);have mem:∀(n o m:Nat),m<n->(b,o+m)∈eb b o n:=by
        intro n
        induction n with
        |zero=>intro o m hm;omega
        |succ n ih=>
          intro o m hm;cases m with
          |zero=>simp[eb]
          |succ m=>simp only[eb,YS];right;rw[show o+(m+1)=o+1+m by omega];exact ih (o+1) m Fn
       have cell:∀o u,vs[o]? =ZA u->w.cell? ⟨kk,o,ZE⟩=ZA u:=by
        intro o u hou;have As:o<cs.length:=by rw[<-aV h3];exact(cZ.1 hou).1
        have hc:=AH As;have hld:=Cw o _ hc;obtain⟨k',v,g1,g2,g3⟩:=RC (b,0+o) (mem _ 0 o Fn) _ hld;simp only at g1 g3;rw[hk]at g1;cases g1;obtain⟨u',JQ,Ib⟩:=dP h3 o _ hc;rw[hou]at JQ;cases JQ;rw[g2]at Ib;cases Ib;rw[bP]at g3;exact g3
       have As:kk<w.heap.size:=by
        have h0:0<vs.length:=by rw[aV h3];omega
        exact World.block_lt_of_cell? w ⟨kk,0,ZE⟩ (cell 0 vs[0] (AH h0))
       exact⟨kk,vs,us,_,rfl,h4,As,cell,tail (Ej.mono (fun x hx=>ZV _ hx)) hrd2⟩
      .exact XU
     .rename_i ks b;rw[de]at h2;obtain⟨cs,CS,h2⟩:=h2;have Ej:RrOk U base j w vw.rw (fZ cs++iJ vw ss xs):=by
       have:iJ vw (.ptr ks::ss) (.one (.fp b 0)::xs)=fZ cs++iJ vw ss xs:=by simp only[iJ,CS]
       rw[<-this];exact BQ
      split at h2
      rotate_left
      .exact XU
      rename_i Ek;obtain⟨kk,hk,rfl⟩:=QL h7;obtain⟨k',Qi,g1,g2,g3,g4⟩:=Ef.2 b cs CS;have Q4:∀c∈cs,CK.any∈ks->∃v,c.den U j=ZA v:=fun c hc _=>by obtain⟨i,hi⟩:=List.getElem?_of_mem hc;obtain⟨v,_,hv⟩:=dP g3 i c hi;exact⟨v,hv⟩
      obtain⟨vs,h3,h4⟩:=zx hv (Ej.mono (fun x hx=>ZZ _ hx)) Q4 h2;rw[hk]at g1;cases g1;rw[h3]at g3;cases g3;exact⟨kk,_,us,_,rfl,h4,g2,fun o u hu=>g4 o u hu (by
       have As:o<cs.length:=by rw[<-aV h3];exact(cZ.1 hu).1
       unfold jM;rw[bZ,AH As];exact CB.1 Ek _ (List.getElem_mem _)),tail (Ej.mono (fun x hx=>ZV _ hx)) By⟩
     .exact XU
def lk(v0:Nat):∀(ks:List CK) (n:Nat),(bE v0 n ks).length=(ks.filter CK.isSl).length
 |[],_=>rfl
 |k::ks,n=>by have ih:=lk v0 ks (n+1);cases k<;>simp[bE,CK.isSl,List.filter_cons,ih]
def lH(v0:Nat):∀(ks:List CK) (n i:Nat) (r:RowOb),(bE v0 n ks)[i]? =ZA r->r.own=ZB
 |[],_,i,r,h=>by simp[bE]at h
 |k::ks,n,i,r,h=>by
   cases k with
   |sl a b=>
     cases i with
     |zero=>simp[bE]at h;rw[<-h]
     |succ i=>exact lH v0 ks (n+1) i r (by simpa[bE]using h)
   |_=>exact lH v0 ks (n+1) i r h
def nJ(v0:Nat):∀(ks:List CK) (n i:Nat) (r:RowOb),(bE v0 n ks)[i]? =ZA r->r.kd=CR r.ks
 |[],_,i,r,h=>by simp[bE]at h
 |k::ks,n,i,r,h=>by
   cases k with
   |sl a b=>
     cases i with
     |zero=>simp[bE]at h;rw[<-h]
     |succ i=>exact nJ v0 ks (n+1) i r (by simpa[bE]using h)
   |_=>exact nJ v0 ks (n+1) i r h
def afk(hS:∀s∈cx.sm,SmOk P sp s)(AR:∀s∈cx.sm,∀s'∈cx.sm,s.key=s'.key->s=s')(Ad:o.op=.call c){f:Operand}(hc:c.callee=.value f)(hf:vw.ev f=ZA (.one (.fn g))){args:List V}(hl:Ew vw.ev c.args.toList=ZA args)(hinA:(K6 vw args).B U=ZB)(h:(aiT cx vw g args kw k).holds sp G U I)(hg:Good sp cx.sm U kw):Sound P sp U G I base cx vw o k kw:=by
 unfold aiT at h;split at h
 .exact h.elim
 .rename_i s e Ra;obtain⟨hs,hsf,Q9⟩:=qD Ra;have ok:=hS s hs;split at h
  .rename_i ks ty De;split at h
   .rename_i _ id;split at h
    .rename_i r P7;split at h
     .rename_i Ea;simp only[ne]at Ea;obtain⟨AL,Cq,C8⟩:=Ea;replace Cq:=cO Cq;replace C8:=Ak C8;obtain⟨CJ,DM,h⟩:=h;obtain⟨L',hF,AS,Cl⟩:=ok.inpl ks ty De (r.l.R U) CJ;have L6:U.l kw.vk.length=L':=by
       have:eqs U (sp.F s.key [.l (r.l.R U)]) kw.vk.length 0 [.sl ks ty]:=DM;rw[hF]at this;exact this.1
      refine⟨_,_,h,⟨hg.pc,?_,hg.log⟩,⟨rfl,by simp⟩,fun j a w hb Au By Ca BQ Ef K Q hK=> ?_⟩
      .refine⟨fun n k hn=> ?_,fun n k hn=> ?_⟩
       .rcases bC n kw.vk.length with h1|h1
        .rw[A9 h1]at hn;exact hg.vk.i n k hn
        .rw[Bo h1]at hn;cases hd:n-kw.vk.length with
         |zero=>rw[hd]at hn;simp at hn
         |succ m=>rw[hd]at hn;simp at hn
       .rcases bC n kw.vk.length with h1|h1
        .rw[A9 h1]at hn;exact hg.vk.l n k hn
        .rw[Bo h1]at hn;cases hd:n-kw.vk.length with
         |zero=>rw[hd]at hn;simp only[cD,bo,VK.list.injEq]at hn;obtain rfl:n=kw.vk.length:=Fn;rw[L6,<-hn];exact AS
         |succ m=>rw[hd]at hn;simp at hn
      .obtain⟨EU,DO⟩:=Vw.sw_some P7;obtain⟨sv,Kq,AW⟩:=BQ id bW r EU;have MW:SlOk U base w sv r:=by
        rcases AW.1.cases with⟨_,h1⟩|⟨h1,_⟩|⟨h1,_⟩
        .exact h1
        .rw[DO]at h1;cases h1
        .rw[DO]at h1;cases h1
       have hor:OwnRow w base ty ks sv (r.l.R U):=by rw[<-Cq,<-C8];exact⟨MW.n,MW.own AL,MW.rows,MW.pos⟩
       obtain⟨Oz,Iw⟩:=Cl base sv w hor;obtain⟨h1,h2⟩:=jn (j:=j) (a:=a) hl (fun x hx=>Au x Xp);have h4:=Au f (by simp[Ad,Op.operands,Call.operands,hc]) _ hf;have h5:a.eval f=.func (.func g) #[] #[]:=(ZN h4).symm;have h7:c.args.map a.eval = #[sv.v]:=by
        have e2:c.args.toList.map a.eval=[sv.v]:=by
         match hm:c.args.toList.map a.eval,h2 with
         |[y],_=>have Ib:(j.s id).map SV.v=ZA y:=h1 0 _ y rfl (by rw[hm];rfl);rw[Kq]at Ib;rw[ZN Ib.symm]
        have e3:c.args.map a.eval=(c.args.toList.map a.eval).toArray:=by rw[<-fQ]
        rw[e3,e2]
       have h6:(execOp a.eval o).run P w=(callFunc s.f #[sv.v]).run P w:=by rw[hsf];simp only[execOp,Ad,resolve,hc,h5,h7,Deferred.ofValue,ZI,Sem.run_pure,Result.andThen_ok,invoke,Array.empty_append,Array.append_empty]
       unfold Oper.wp;rw[h6,Oz];show Calls P s.f _ w _;refine Iw.mono ?_;rintro e' w' ⟨rfl,ho,hgr⟩;refine hK (.tuple #[]) j w' rfl ⟨rfl,sv,Kq,hgr,RowOk.mk_own (r:={r with l:=.g kw.vk.length}) DO ?_ ?_ ?_ ?_,fun e=>by rw[show r.kd=.sl from DO]at e;cases e⟩
       .show sv.n=(U.l kw.vk.length).length;rw[L6];exact ho.n
       .show RowsIn r.ks (U.l kw.vk.length);rw[L6,Cq];exact ho.rows
       .exact MW.pos
       .show w'.ownsRow base r.ty r.ks.length sv.v sv.n (flat r.ks (U.l kw.vk.length));rw[L6,Cq,C8];exact ho.own
     .exact h.elim
    .exact h.elim
   .exact h.elim
  rename_i De;have Mo:∀v0 An,KwGe An kw->sp.pre s.key (e.D U)->eqs U (sp.F s.key (e.D U)) v0 0 s.ks->(k {val:=Pa s v0 vw.nid,rd:=uQ s.args args,rr:=iJ vw s.args args,re:=.mk (bE v0 0 s.ks)} An).holds sp G U I->Good sp cx.sm U An->Sound P sp U G I base cx vw o k kw:=by
   intro v0 An KZ CJ DM hh CP;refine⟨_,An,hh,CP,KZ,fun j a w hb Au By Ca BQ Ef K Q hK=> ?_⟩;obtain⟨h1,h2⟩:=jn (j:=j) (a:=a) hl (fun x hx=>Au x Xp);have h3:=aiC hg.vk BQ By Ef Q9 hinA _ h1 h2;have h4:=Au f (by simp[Ad,Op.operands,Call.operands,hc]) _ hf;have h5:a.eval f=.func (.func g) #[] #[]:=(ZN h4).symm;have h7:c.args.map a.eval=(c.args.toList.map a.eval).toArray:=by rw[<-fQ]
   have h6:(execOp a.eval o).run P w=(callFunc s.f (c.args.toList.map a.eval).toArray).run P w:=by rw[hsf,<-h7];simp only[execOp,Ad,resolve,hc,h5,Deferred.ofValue,ZI,Sem.run_pure,Result.andThen_ok,invoke,Array.empty_append,Array.append_empty]
   have Hq:∀v w',RetOk s.res s.tup w w' (sp.F s.key (e.D U)) v->K (a.put o.dst v) w':=by
    intro v w' HN;obtain⟨hx,_,svs,Gk,KR,AS,Ox,hzz⟩:=HN;refine hK v ((j.putL vw.nid svs).addzs (svs.flatMap (·.z))) w' (KR U v0 vw.nid _ DM (fun i u hu=> ?_)) ⟨hx,svs,by rw[Gk,lk];rfl,fun i u r hu hr=> ?_,Ox,hzz,rfl⟩
    .rw[aru];simp[J.putL,hu]
    .exact⟨AS U v0 DM i u r hu hr,lH v0 _ _ _ _ hr,fun h=>ai ((nJ v0 _ _ _ _ hr).symm.trans h) zj⟩
   rcases ok.calls De _ _ w h3 CJ Ef.1 with⟨v,w',hr,HN⟩|⟨Oz,Iw⟩
   .rw[hr]at h6;exact dH h6 (Hq v w' HN)
   .unfold Oper.wp;rw[h6,Oz];show Calls P s.f _ w _;refine Iw.mono ?_;rintro e' w' ⟨v,rfl,HN⟩;exact Hq v w' HN
  split at h
  next v0 hlog=>obtain⟨s',Bj,B2,CJ,DM⟩:=hg.log _ (sy hlog);have:=AR s' Bj s hs B2;subst this;exact Mo v0 kw (.refl _) CJ DM h hg
  .obtain⟨CJ,DM,h⟩:=h;refine Mo kw.vk.length {kw with log:=(s.key,e,kw.vk.length)::kw.log,vk:=kw.vk++s.ks.map xH} ⟨rfl,by simp⟩ CJ DM h ⟨hg.pc,?_,?_⟩
   .exact aun hg.vk (ok.rng _ (aiD hg.vk Q9) CJ U _ DM)
   .intro p hp;rcases YS.1 hp with rfl|hp
    .exact⟨s,hs,rfl,CJ,DM⟩
    .exact hg.log p hp
def akc(hS:∀s∈cx.sm,SmOk P sp s)(AR:∀s∈cx.sm,∀s'∈cx.sm,s.key=s'.key->s=s')(Ad:o.op=.call c){f:Operand}(hc:c.callee=.value f)(hf:vw.ev f=ZA (.one (.fn g))){args:List V}(hl:Ew vw.ev c.args.toList=ZA args)(h:(are cx vw g args kw k).holds sp G U I)(hg:Good sp cx.sm U kw):Sound P sp U G I base cx vw o k kw:=by
 unfold are at h;obtain⟨An,h1,g1,_,l1⟩:=aO _ _ _ h hg;split at h1
 .rename_i De;refine Sound.lv ?_ l1;unfold anq at h1;split at h1
  .exact afk hS AR Ad hc hf hl De h1 g1
  .exact h1.elim
 .exact h1.elim
def aj9{c:Operand}(Ad:o.op=.pick c x y){u v:V}(hc:vw.ev c=ZA (.one (.bool e)))(hx:vw.ev x=ZA u)(hy:vw.ev y=ZA v)(h:(AK e (fun b kw=>k {val:=if b then u else v} kw) kw).holds sp G U I)(hg:Good sp cx.sm U kw):Sound P sp U G I base cx vw o k kw:=by
 obtain⟨An,h1,g1,_,l1⟩:=aO _ _ _ h hg;refine⟨_,An,h1,g1,l1,OpOk.pure fun j a w _ Au _ _ _=>⟨if e.B U then a.eval x else a.eval y,?_,?_⟩⟩
 .have h2:=Au x Or _ hx;have h3:=Au y Or _ hy;cases e.B U
  .exact h3
  .exact h2
 .have h2:=kO (Au c Or _ hc);simp[execOp,Ad,h2,asBool,ZI]
def qi(hT:∀t i,(t,i)∈cx.ty->TIok P t i):∀(fs:List Field) (l pl:List (Nat×Nat)),fs.map (fun f=>(f.offset,f.type))=l->oQ cx.ty l=ZA pl->∀w,(fs.mapM (m:=Sem) fun f=>do pure (f.offset,<-sizeOf f.type)).run P w=.ok pl w
 |[],l,pl,hl,h,w=>by subst hl;cases h;simp
 |f::fs,l,pl,hl,h,w=>by
   subst hl;simp only[List.map_cons,oQ]at h;split at h
   next i r hi hr=>cases h;have:=(hT _ _ (af hi)).size;rw[List.mapM_cons];simp only[ZI,this,Result.andThen_ok,Sem.run_pure];rw[qi hT fs _ r rfl hr w];simp
   .exact Xo
def afl(hT:∀t i,(t,i)∈cx.ty->TIok P t i)(Ad:o.op=.build t ps)(Gy:KI vw.ev ps.toList=ZA A5){v:V}(hv:aiX cx t A5=ZA v)(h:(k {val:=v} kw).holds sp G U I)(hg:Good sp cx.sm U kw):Sound P sp U G I base cx vw o k kw:=by
 refine⟨_,kw,h,hg,.refl _,OpOk.pure fun j a w _ Au _ _ _=> ?_⟩;obtain⟨h1,h2⟩:=TK (a:=a) (j:=j) Gy (fun x hx=>Au x (by
  simp only[Ad,Op.operands];simpa using hx))
 have h3:(ps.map fun p=>(p.1,a.eval p.2)).toList=ps.toList.map fun p=>(p.1,a.eval p.2):=Array.toList_map ..;have hx:execOp a.eval o=(do let v <-Instr.build t (ps.map fun p=>(p.1,a.eval p.2));pure (.value v)):=by simp only[execOp,Ad]
 unfold aiX at hv;split at hv
 .rename_i i hi;have ht:=hT _ _ (af hi);obtain⟨z,hz,II⟩:=ht.zero;split at hv
  .rename_i n et ha;split at hv
   next ie BA=>rw[Ay]at hv;obtain⟨cs,CS,rfl⟩:=hv;obtain⟨cells,h4,h5⟩:=qE (j:=j) A5 _ cs _ z.cells CS (II U j) h1 h2;refine⟨.agg cells,by simp[V.den,h5],?_⟩;have hs:=(hT _ _ (af BA)).size;rw[hx];simp[Instr.build,ZI,hz,run_underlying (ht.arr n et ha),hs,h3,h4]
   .cases hv
  .rename_i ha;split at hv
   .rename_i Bu;split at hv
    .rename_i pl hpl;rw[Ay]at hv;obtain⟨cs,CS,rfl⟩:=hv;obtain⟨cells,h4,h5⟩:=qE (j:=j) A5 _ cs _ z.cells CS (II U j) h1 h2;refine⟨.agg cells,by simp[V.den,h5],?_⟩;obtain⟨fs,Re,E0⟩:=ht.str Bu ha;have hm:=qi hT fs.toList i.fields pl E0 hpl w;have Hs:(fs.mapM (m:=Sem) fun f=>do pure (f.offset,<-sizeOf f.type)).run P w=.ok pl.toArray w:=by
      rw[Array.mapM_eq_mapM_toList];rw[show(Functor.map List.toArray (List.mapM (fun f=>(do pure (f.offset,<-sizeOf f.type):Sem (Nat×Nat))) fs.toList):Sem (Array (Nat×Nat)))=(do let l <-List.mapM (fun f=>(do pure (f.offset,<-sizeOf f.type):Sem (Nat×Nat))) fs.toList;pure l.toArray)from rfl];rw[ZI,hm];rfl
     have h6:(fun m:Nat=>pl.toArray[m]?)=fun m:Nat=>pl[m]? :=by funext m;simp
     rw[hx];simp only[Instr.build,ZI,hz,run_underlying Re,Result.andThen_ok,Hs,h3,h6,h4,Sem.run_pure]
    .cases hv
   .cases hv
 .cases hv
def asr(hT:∀t i,(t,i)∈cx.ty->TIok P t i)(hS:∀s∈cx.sm,SmOk P sp s)(AR:∀s∈cx.sm,∀s'∈cx.sm,s.key=s'.key->s=s')(h:(Vi cx vw o.op kw k).holds sp G U I)(hg:Good sp cx.sm U kw):Sound P sp U G I base cx vw o k kw:=by
 cases Ad:o.op<;>rw[Ad]at h<;>simp only[Vi]at h
 case move x=>
  split at h
  next v hv=>exact aax (.inl Ad) hv h hg
  .exact h.elim
 case assign x=>
  split at h
  next v hv=>exact aax (.inr Ad) hv h hg
  .exact h.elim
 case alloc t=>
  split at h
  next i hi=>exact afm hT Ad hi h hg
  .exact h.elim
 case box t x=>
  split at h
  .rename_i v hv;split at h
   next hf=>exact ao7 Ad hv hf h hg
   .exact h.elim
  .exact h.elim
 case load t x=>
  split at h
  .rename_i b off i hx hi;split at h
   .rename_i Bu;split at h
    next cs CS=>exact vB hT Ad hx hi Bu (vw.rowok _ _ _ _ CS) h hg
    .exact h.elim
   .rename_i Bu;split at h
    next c hc=>exact vC hT Ad hx hi Bu hc h hg
    .exact h.elim
  .rename_i b off i hx hi;split at h
   .rename_i Bu;split at h
    .rename_i cs CS;rw[de]at CS;obtain⟨c0,JL,CS⟩:=CS;split at h
     next Ek=>exact tG hT Ad hx hi Bu (by have:=W2 (ld:=fun b o=>(vw.fb b).bind (·[o]?)) (b:=b) (k:=0) CS (fun i=>by simp[JL]);rwa [bP]at this) Ek h hg
     .exact h.elim
    .exact h.elim
   .rename_i Bu;split at h
    .rename_i c hc;split at h
     next Ek=>exact tH hT Ad hx hi Bu hc Ek h hg
     .exact h.elim
    .exact h.elim
  .rename_i b o0 n sz e off i hx hi;split at h
   .rename_i cs CS;split at h
    next hq=>exact afa hT Ad hx hi CS (Ah hq) h hg
    .exact h.elim
   .exact h.elim
  .rename_i id Bt e off i hx hi;split at h
   .rename_i r hr;split at h
    next hq=>simp only[ne,aE]at hq;exact afb hT Ad hx hi hr (Ak hq.1) hq.2 h hg
    .exact h.elim
   .exact h.elim
  .exact h.elim
 case store t x y=>
  split at h
  .rename_i b off v i hx hy hi;split at h
   next hq=>simp only[ne]at hq;exact ae8 hT Ad hx hy hi hq.1 hq.2.1 hq.2.2 h hg
   .exact h.elim
  .rename_i b o0 n sz e off v i hx hy hi;split at h
   .rename_i cs CS;split at h
    next hq=>simp only[ne,aE]at hq;exact acI hT Ad hx hy hi CS hq.1 (Ak hq.2.1) hq.2.2.1 (Ak hq.2.2.2) h hg
    .exact h.elim
   .exact h.elim
  .rename_i id Bt e off v i hx hy hi;split at h
   .rename_i r hr;split at h
    next hq=>simp only[ne,aE]at hq;exact acJ hT Ad hx hy hi hr hq.1 (Ak hq.2.1) hq.2.2.1 (Ak hq.2.2.2.1) hq.2.2.2.2 h hg
    .exact h.elim
   .exact h.elim
  .exact h.elim
 case nilCheck x=>
  split at h
  next b off hx=>exact gN Ad hx (.inl (.inl ⟨b,off,rfl⟩)) h hg
  next b off hx=>exact gN Ad hx (.inl (.inr (.inl ⟨b,off,rfl⟩))) h hg
  next b o0 n sz e off hx=>exact tD Ad hx h hg
  next g hx=>exact gN Ad hx (.inr ⟨g,rfl⟩) h hg
  next id Bt e off hx=>exact gN Ad hx (.inl (.inr (.inr ⟨id,Bt,e,off,rfl⟩))) h hg
  next g fs ps hx=>exact tE Ad hx h hg
  .exact h.elim
  .exact h.elim
 case binOp op xt x y yt=>
  split at h
  next v u hx hy=>exact ao8 hT Ad hx hy h hg
  .exact h.elim
 case unOp op t x=>
  split at h
  next e hx=>exact WN Ad hx h hg
  next kd e hx=>exact WN Ad hx h hg
  next kd e hx=>exact WN Ad hx h hg
  .exact h.elim
 case convert s d x=>
  split at h
  .rename_i k0 e i is hx hi his;split at h
   next kd hk=>exact akb hT Ad hx hi his hk h hg
   .exact h.elim
  .exact h.elim
 case fieldAddr s x f=>
  split at h
  .rename_i b off i hx hi;split at h
   next fo ft hf=>exact fK hT Ad hx hi hf (fun j v hv=>wW hv) h hg
   .exact h.elim
  .rename_i b off i hx hi;split at h
   next fo ft hf=>exact fK hT Ad hx hi hf (fun j v hv=>abF hv) h hg
   .exact h.elim
  .rename_i b o0 n sz e off i hx hi;split at h
   next fo ft hf=>exact fK hT Ad hx hi hf (fun j v hv=>abE hv) h hg
   .exact h.elim
  .rename_i id Bt e off i hx hi;split at h
   next fo ft hf=>exact fK hT Ad hx hi hf (fun j v hv=>abG hv) h hg
   .exact h.elim
  .exact h.elim
 case field s x f=>
  split at h
  .rename_i cs i hx hi;split at h
   .rename_i fo ft hf;split at h
    next v hv=>exact afe hT Ad hx hi hf hv h hg
    .exact h.elim
   .exact h.elim
  .exact h.elim
 case indexAddr t x y=>
  split at h
  .rename_i b off k0 e i hx hy hi;split at h
   .rename_i n et ha;split at h
    .rename_i ie BA;split at h
     .exact vD hT Ad hx hy hi ha BA h hg
     .exact iN hT Ad hx hy hi ha BA (c':=fun m=>.ptr b (off+m*ie.size)) (fun m j v hv=>wW hv) h hg
    .exact h.elim
   .exact h.elim
  .rename_i id Bt e0 off k0 e i hx hy hi;split at h
   .rename_i n et ha;split at h
    next ie BA=>exact iN hT Ad hx hy hi ha BA (c':=fun m=>.ep id Bt e0 (off+m*ie.size)) (fun m j v hv=>abG hv) h hg
    .exact h.elim
   .exact h.elim
  .rename_i id k0 e i hx hy hi;split at h
   .rename_i et ha;split at h
    .rename_i ie r BA hr;split at h
     next Cq=>exact vE hT Ad hx hy hi ha BA hr (Ak Cq) h hg
     .exact h.elim
    .exact h.elim
   .exact h.elim
  .exact h.elim
  .exact h.elim
 case index t x y=>
  split at h
  .rename_i cs k0 e i hx hy hi;split at h
   .rename_i n et ha;split at h
    next ie BA=>exact afd hT Ad hx hy hi ha BA h hg
    .exact h.elim
   .exact h.elim
  .exact h.elim
 case pick c x y=>
  split at h
  next e u v hc hx hy=>exact aj9 Ad hc hx hy h hg
  .exact h.elim
 case build t ps=>
  split at h
  .rename_i A5 Gy;split at h
   next v hv=>exact afl hT Ad Gy hv h hg
   .exact h.elim
  .exact h.elim
 case buildSlice t n ps=>
  split at h
  .rename_i A5 i Gy hi;split at h
   .rename_i et ha;split at h
    .rename_i ie BA;split at h
     .rename_i ks cs Cq Eg;split at h
      .rename_i l hl;split at h
       next hq=>simp only[ne,aE]at hq;exact ri hT Ad Gy hi ha BA Eg hl ⟨hq.1,hq.2.1,Ak hq.2.2⟩ h hg
       .exact h.elim
      .exact h.elim
     .exact h.elim
    .exact h.elim
   .exact h.elim
  .exact h.elim
 case makeSlice t x y=>
  split at h
  .rename_i k1 e k2 e' i hx hy hi;split at h
   .rename_i et ha;split at h
    .rename_i ie BA;split at h
     .rename_i ks Cq;split at h
      .rename_i r hr;split at h
       next hq=>simp only[ne,aE]at hq;exact tF hT Ad hx hy hi ha BA hr ⟨hq.1,hq.2.1,Ak hq.2.2.1,hq.2.2.2⟩ h hg
       .exact h.elim
      .exact h.elim
     .exact h.elim
    .exact h.elim
   .exact h.elim
  .exact h.elim
 case slice t x lo Bg mx=>
  cases mx with
  |some m=>exact h.elim
  |none=>
    simp only[Vi]at h;split at h
    .rename_i id i hx hi;split at h
     .rename_i et r ha hr;split at h
      .rename_i ie BA;split at h
       .rename_i hq;simp only[ne]at hq;have Cq:=Ak hq.1;split at h
        .rename_i kd a h1 h2;have e1:Bg=ZE:=XC;subst e1;rw[Ay]at h2;obtain⟨y,rfl,hy⟩:=h2;obtain⟨Cc,g1,q1,_,l1⟩:=aO _ _ _ h hg;rw[dh]at g1;split at g1
         .exact g1.elim
         rename_i n1;obtain⟨Dq,g2,q2,_,l2⟩:=aO _ _ _ g1 q1;rw[dh,dF]at g2;split at g2
         .exact g2.elim
         rename_i n2;have m1:¬a.I U<0:=Ab (Bool.eq_false_iff.2 n1);have m2:¬((r.l.R U).length:Int)<a.I U:=Ab (Bool.eq_false_iff.2 n2);exact(ao6 hT Ad hx hi ha BA hr Cq (L:=(a.I U).toNat) (H:=(r.l.R U).length) (.inr ⟨y,kd,a,rfl,hy,by omega⟩) (.inl ⟨rfl,rfl⟩) (by simp[E.R]) Fn g2 q2).lv (l2.trans l1)
        .exact h.elim
       .exact h.elim
      .exact h.elim
     .exact h.elim
    .exact h.elim
 case makeMap t rs=>
  cases rs with
  |some _=>exact h.elim
  |none=>exact h.elim
 case lookup t x y ok=>exact h.elim
 case mapUpdate t x y z=>exact h.elim
 case range t x=>exact h.elim
 case entry x=>exact h.elim
 case makeFunc fn fs ps=>
  split at h
  next g x y hx hy=>exact vA Ad hx hy h hg
  .exact h.elim
 case extract x n=>
  split at h
  .rename_i vs hx;split at h
   next cs hp=>exact pD Ad hx hp (.inl ⟨cs,rfl,rfl⟩) h hg
   next c hp=>exact pD Ad hx hp (.inr ⟨c,rfl,rfl⟩) h hg
   .exact h.elim
  .exact h.elim
 case call c=>
  split at h
  .rename_i f hc;split at h
   next g args hf hl=>exact akc hS AR Ad hc hf hl h hg
   .exact h.elim
  .rename_i hc;split at h
   .rename_i id t hl C8;split at h
    .rename_i i r hi hr;split at h
     next Gk=>exact ao5 hT Ad hc hl C8 hi Gk hr h hg
     .exact h.elim
    .exact h.elim
   .rename_i t hl C8;split at h
    .rename_i i hi;split at h
     next Gk=>exact aka hT Ad hc hl C8 hi Gk h hg
     .exact h.elim
    .exact h.elim
   .exact h.elim
  .rename_i hc;split at h
   .rename_i s id t t' hl C8;split at h
    .rename_i i r hi hr;split at h
     .rename_i et ha;split at h
      .rename_i ie BA;split at h
       .rename_i hq;simp only[ne,aE]at hq;have htt:=Ak hq.1;subst htt;have Gz:r.ty=et/\r.ks.length=ie.size/\0<ie.size/\ie.bytes<=65536:=⟨Ak hq.2.1,Ak hq.2.2.1,hq.2.2.2.1,hq.2.2.2.2⟩
        split at h
        .exact yv hT Ad hc hl C8 hi ha BA hr Gz h hg
        .rename_i old;split at h
         .rename_i q RD;split at h
          next GQ=>simp only[ne]at GQ;exact acO hT Ad hc hl C8 hi ha BA hr RD Gz ⟨GQ.1,Ak GQ.2.1,cO GQ.2.2.1⟩ h hg
          .exact h.elim
         .exact h.elim
        .exact h.elim
       .exact h.elim
      .exact h.elim
     .exact h.elim
    .exact h.elim
   .exact h.elim
  .rename_i hc;split at h
   .rename_i k0 e l hl;split at h
    next e' he=>exact amj ZC Ad hc hl he h hg
    .exact h.elim
   .exact h.elim
  .rename_i hc;split at h
   .rename_i k0 e l hl;split at h
    next e' he=>exact amj ZB Ad hc hl he h hg
    .exact h.elim
   .exact h.elim
  .exact h.elim
 all_goals exact h.elim
end
def IZ:E->E
 |.lrep (.len x) _=>.len x
 |a=>dG a
def asK(U:Env)(a:E):(IZ a).I U=((a.R U).length:Int):=by
 unfold IZ;split
 .simp[E.R,E.I]
 .exact dF U _
def jg(l n:E):E:=match n with
 |.p z=>if fH z 0 then .ln else if n.same (IZ l)then l else .ltake l n
 |n=>if n.same (IZ l)then l else .ltake l n
def jh(l n:E):E:=match n with
 |.p z=>if fH z 0 then l else if n.same (IZ l)then .ln else .ldrop l n
 |n=>if n.same (IZ l)then .ln else .ldrop l n
def oM{n:E}(h:n.same (IZ l)=ZB):(n.I U).toNat=(l.R U).length:=by rw[E.same_eq h,asK];rfl
def uo(U:Env)(l n:E):(jg l n).R U=(l.R U).take (n.I U).toNat:=by
 unfold jg;split
 .split
  next z hz=>rw[cX hz];rfl
  .split
   next h=>rw[oM h,List.take_length]
   .rfl
 .split
  next h=>rw[oM h,List.take_length]
  .rfl
def ur(U:Env)(l n:E):(jh l n).R U=(l.R U).drop (n.I U).toNat:=by
 unfold jh;split
 .split
  next z hz=>rw[cX hz];rfl
  .split
   next h=>rw[oM h,List.drop_length];rfl
   .rfl
 .split
  next h=>rw[oM h,List.drop_length];rfl
  .rfl
def MD(l lo hi:E)(mx:Option E):E:=
 im (eD (Bl lo (.p 0))) (im (eD (Bl hi lo)) (im (eD (Bl (dG l) hi)) (match mx with
  |none=>.tt ZB
  |some m=>im (eD (Bl m hi)) (eD (Bl (dG l) m)))))
def arG{mx:Option E}(h:(MD l lo hi mx).B U=ZB):0<=lo.I U/\lo.I U<=hi.I U/\hi.I U<=((l.R U).length:Int)/\∀m,mx=ZA m->hi.I U<=m.I U/\m.I U<=((l.R U).length:Int):=by unfold MD at h;simp only[dV,dn,dh,dF,ne,ZO,mi,E.I]at h;obtain⟨h1,h2,h3,h4⟩:=h;replace h1:¬lo.I U<0:=Ab h1;refine⟨by omega,by omega,by omega,fun m hm=> ?_⟩;subst hm;simp only[dV,dn,dh,dF,ne,ZO,mi]at h4;omega
def JS(vw:Vw)(o:Option Operand)(d:E):Option E:=match o with
 |none=>ZA d
 |some y=>match vw.ev y with
   |some (.one (.int _ e))=>ZA e
   |_=>ZE
def J6(a b:E):E:=match a with
 |.p z=>if fH z 0 then b else kh .add .i64 a b
 |a=>kh .add .i64 a b
def T1:C->C->Option Bool
 |.ptr _ _,.np|.fp _ _,.np|.np,.ptr _ _|.np,.fp _ _|.ep _ _ _ _,.np=>ZA ZC
 |.np,.np=>ZA ZB
 |_,_=>ZE
section
variable {P:Program}{sp:Spec}{U:Env}{G:Env->E->Prop}{I:Nat->List Dt->Prop}{base:Nat}{cx:Cx}{vw:Vw}{o:Oper}{k:Eff->Kw->Tr}
def acD{l:Nat}(hm:m<=s.c):∀k,(s.cut Bt l h m).blk ZC=ZA k->s.blk ZC=ZA k:=by
 intro k hk;have hc:m-l≠0:=fun hc=>by unfold SV.blk at hk;simp[SV.cut,hc]at hk
 refine mZ Fn ?_;have hk:=ay hk;obtain⟨a,n,c,z⟩:=s;simp only[SV.cut,SV.v]at hk ⊢;rw[aa Fn]at hk;cases a with
 |none=>simp[Value.ownBlock]at hk
 |some a=>simp only[YR,Value.ownBlock,bo]at hk ⊢;rw[<-hk];unfold Addr.add;split<;>rfl
def ajy{l:Nat}(Aj:SlOk U base w s r)(hq:q.ks=r.ks/\q.own=ZC)(hL:q.l.R U=((r.l.R U).take h).drop l)(h1:l<=h)(h2:h<=s.n)(h3:h<=m)(h4:m<=s.c):
  SlOk U base w (s.cut r.ks.length l h m) q:=by
 obtain⟨r1,r2,r3,r4,r5⟩:=Aj.rd;have hn:=Aj.n;have AZ:(q.l.R U).length=h-l:=by rw[hL,List.length_drop,YZ];omega
 have AS:∀x∈q.l.R U,az r.ks x=ZB:=fun x hx=>Aj.rows.row x (by rw[hL]at hx;exact List.mem_of_mem_take (List.mem_of_mem_drop hx));refine⟨AZ.symm,⟨by rw[hq.1];exact AS,by rw[AZ];omega⟩,by rw[hq.1];exact Aj.pos,fun k hk=> ?_,fun ho=>(by rw[hq.2]at ho;cases ho),?_⟩
 .rw[hq.2]at hk;exact Aj.lt k (bN (acD h4 k hk))
 .rw[hq.1];have E0:flat r.ks (q.l.R U)=((flat r.ks (r.l.R U)).take (h*r.ks.length)).drop (l*r.ks.length):=by
   rw[qA h Aj.rows.row,qB l (fun x hx=>Aj.rows.row x (List.mem_of_mem_take hx)),hL]
  refine⟨by rw[bw AS,AZ];rfl,by simp only[SV.cut];omega,by simp only[SV.cut];omega,fun ha=> ?_,fun a ha i u hi=> ?_⟩
  .simp only[SV.cut]at ha ⊢;split at ha
   .have:=r4 ha;omega
   .rw[Option.map_eq_none_iff]at ha;have:=r4 ha;omega
  .simp only[SV.cut]at ha;have As:i<(flat r.ks (q.l.R U)).length:=(cZ.1 hi).1;rw[bw AS,AZ]at As;split at ha
   next hc=>have:h-l=0:=Fn;rw[this]at As;omega
   .rw[Ay]at ha;obtain⟨a0,JI,rfl⟩:=ha;rw[bS];refine r5 a0 JI _ u ?_;rw[E0,List.getElem?_drop,List.getElem?_take]at hi;split at hi
    .exact hi
    .cases hi
def ah7{o1:Option Operand}{d:E}(h:JS vw o1 d=ZA e):(o1=ZE/\e=d)\/∃y kd,o1=ZA y/\vw.ev y=ZA (.one (.int kd e)):=by
 unfold JS at h;split at h
 .cases h;exact .inl ⟨rfl,rfl⟩
 .rename_i y;split at h
  next kd e' he=>cases h;exact .inr ⟨y,kd,rfl,he⟩
  .exact Xo
def acK(hT:∀t i,(t,i)∈cx.ty->TIok P t i)(Ad:o.op=.indexAddr t x y){id:Nat}{mx:Option E}(hx:vw.ev x=ZA (.one (.wn id sz lo hi mx)))(hy:vw.ev y=ZA (.one (.int k0 e)))(Bg:ap t cx.ty=ZA i)(ha:i.sle=ZA et)(BA:ap et cx.ty=ZA ie)(hr:vw.sw id=ZA r)(Cq:r.ks.length=ie.size)(BR:sz=ie.size)(h:(AK (MD r.l lo hi mx) (fun ok kw=>if ok then AK (GS e (jh (jg r.l hi) lo)) (fun b kw=>if b then k {val:=.one (.ep id ie.size (J6 lo e) 0),rr:=[id]} kw else .panic) kw else .stuck 185) kw).holds sp G U I)(hg:Good sp cx.sm U kw):Sound P sp U G I base cx vw o k kw:=by
 obtain⟨Cc,h1,g1,_,l1⟩:=aO _ _ _ h hg;split at h1
 .rename_i hwin;obtain⟨b1,b2,b3,b4⟩:=arG hwin;obtain⟨Dq,h2,g2,_,l2⟩:=aO _ _ _ h1 g1;rw[xl]at h2;split at h2
  .rename_i hb;simp only[ne,aE,ur,uo,List.length_drop,YZ]at hb;refine⟨_,Dq,h2,g2,l2.trans l1,OpOk.pure fun j a w _ Au _ BQ _=> ?_⟩;obtain⟨s,hs,Aj⟩:=BQ.sl id (by simp) r hr;have hd:=Au x Or _ hx;simp only[V.den,C.den,hs,YR,bo]at hd;have hq:=cF (Au y Or _ hy);have hu:=(hT _ _ (af Bg)).sle et ha;have hesz:=(hT _ _ (af BA)).size;have hn:=Aj.n;have By:=Aj.rd;have AZ:=Aj.rows.len;obtain⟨sa,sn,sc,sz⟩:=s;simp only at hn;have hsum:(J6 lo e).I U=lo.I U+e.I U:=by
    have JJ:(kh .add .i64 lo e).I U=lo.I U+e.I U:=by rw[ut];show IntKind.i64.wrap _=_;refine pt ?_;rw[bF];simp only[maxLen]at AZ;simp only[IntKind.min,IntKind.max,IntKind.signed,IntKind.bits];simp;omega
    unfold J6;split
    .split
     next z hz=>have:=cX hz;simp only[E.I]at *;omega
     .exact JJ
    .exact JJ
   cases sa with
   |none=>have:=(By.2.2.2.1 rfl).1;simp only at this;omega
   |some p=>
     have hm:O3 U mx sc≠(lo.I U).toNat:=by
      have hnc:=By.2.1;simp only at hnc;cases mx with
      |none=>simp only[O3];omega
      |some m=>have:=b4 m rfl;simp only[O3];omega
     refine⟨.pointer (ZA (p.add (((J6 lo e).I U).toNat*ie.size+0))),by simp[V.den,C.den,hs,SV.elem],?_⟩;have As:(0:Int)<=e.I U/\e.I U<(((hi.I U).toNat-(lo.I U).toNat:Nat):Int):=Fn;have hadr:(p.add ((lo.I U).toNat*ie.size)).add ((e.I U).toNat*ie.size)=p.add (((J6 lo e).I U).toNat*ie.size+0):=by rw[bS,hsum];congr 1;have e3:(lo.I U+e.I U).toNat=(lo.I U).toNat+(e.I U).toNat:=Fn;rw[e3,ZR,Nat.add_mul]
     subst BR;simp[execOp,Ad,<-hd,SV.v,SV.cut,hm,hq,Instr.indexAt,run_underlying hu,asIntOf,As,hesz,ZI,hadr]
  .exact h2.elim
 .exact h1.elim
def ag2{c d:C}{b:Bool}(h:T1 c d=ZA b){x y:Value}(hx:(V.one c).den U j=ZA x)(hy:(V.one d).den U j=ZA y):∃p q,x=.pointer p/\y=.pointer q/\(p=ZE\/q=ZE)/\b=(p.isNone&&q.isNone):=by
 unfold T1 at h;split at h<;>cases h
 .obtain⟨k,_,rfl⟩:=mH hx;cases hy;exact⟨_,_,rfl,rfl,.inr rfl,rfl⟩
 .obtain⟨k,_,rfl⟩:=QL hx;cases hy;exact⟨_,_,rfl,rfl,.inr rfl,rfl⟩
 .obtain⟨k,_,rfl⟩:=mH hy;cases hx;exact⟨_,_,rfl,rfl,.inl rfl,rfl⟩
 .obtain⟨k,_,rfl⟩:=QL hy;cases hx;exact⟨_,_,rfl,rfl,.inl rfl,rfl⟩
 .cases hy;obtain⟨p,rfl⟩:=ag0 (.inr (.inr ⟨_,_,_,_,rfl⟩)) hx;exact⟨_,_,rfl,rfl,.inr rfl,rfl⟩
 .cases hx;cases hy;exact⟨_,_,rfl,rfl,.inl rfl,rfl⟩
def acX{e:Nat}(hu:P.underlying t=ZA (.pointer e))(p q:Option Addr)(h:p=ZE\/q=ZE)(w:World):(Op.equal t (.pointer p) (.pointer q)).run P w=.ok (p.isNone&&q.isNone) w:=by
 unfold Op.equal;have key:∀d x y,(Op.equalIn (d+1) t x y).run P w=_:=fun d x y=>by rw[Op.equalIn,ZI,run_underlying hu]
 rcases h with rfl|rfl
 .refine(key 9999 _ _).trans ?_;cases q<;>rfl
 .refine(key 9999 _ _).trans ?_;cases p<;>rfl
def ae9(hT:∀t i,(t,i)∈cx.ty->TIok P t i){op:BinOp}(BM:op=.eql\/op=.neq){xt yt:Nat}(Ad:o.op=.binOp op xt x y yt){c d:C}(hx:vw.ev x=ZA (.one c))(hy:vw.ev y=ZA (.one d))(hi:ap xt cx.ty=ZA i)(hk:i.kd=1){b:Bool}(hb:T1 c d=ZA b)(h:(k {val:=.one (.bool (.tt (if op=.eql then b else !b)))} kw).holds sp G U I)(hg:Good sp cx.sm U kw):Sound P sp U G I base cx vw o k kw:=by
 refine⟨_,kw,h,hg,.refl _,OpOk.pure fun j ac w _ Au _ _ _=>⟨.bool (if op=.eql then b else !b),by simp[V.den,C.den,E.B],?_⟩⟩;obtain⟨e,hu⟩:=(hT _ _ (af hi)).ptr hk;obtain⟨p,q,h1,h2,h3,rfl⟩:=ag2 hb (Au x Or _ hx) (Au y Or _ hy);have h4:=acX hu p q h3 w;rcases BM with rfl|rfl<;>simp[execOp,Ad,h1,h2,eqGuard,binOp,h4,ZI]
def aeU:∀{a b:LL},(∀r∈a,az [ZA .u8] r=ZB)->(∀r∈b,az [ZA .u8] r=ZB)->oF a=oF b->a=b:=by
 have key:∀{a b:LL},(∀r∈a,az [ZA .u8] r=ZB)->(∀r∈b,az [ZA .u8] r=ZB)->(a.map fun r=>UInt8.ofNat (r.getD 0 0).toNat)=(b.map fun r=>UInt8.ofNat (r.getD 0 0).toNat)->a=b:=by
  intro a
  induction a with
  |nil=>intro b _ _ h;cases b with
    |nil=>rfl
    |cons=>simp at h
  |cons x a ih=>
    intro b ha hb h;cases b with
    |nil=>simp at h
    |cons y b=>
      simp only[List.map_cons,Be]at h;have hx:=ha x bW;have hy:=hb y bW;have h1:=gQ hx;have h2:=gQ hy;have h3:=ih (fun r hr=>ha r (cR _ hr)) (fun r hr=>hb r (cR _ hr)) h.2
      match x,y,h1,h2 with
      |[u],[v],_,_=>
        have hu:Ae .u8 u=ZB:=by simpa[az,Dp]using hx
        have hv:Ae .u8 v=ZB:=by simpa[az,Dp]using hy
        rw[bF]at hu hv;simp only[IntKind.min,IntKind.max,IntKind.signed,IntKind.bits]at hu hv;simp at hu hv;have h4:(UInt8.ofNat u.toNat).toNat=(UInt8.ofNat v.toNat).toNat:=by have:=h.1;simp only[List.getD_cons_zero]at this;rw[this]
        rw[UInt8.toNat_ofNat',UInt8.toNat_ofNat']at h4;have:u=v:=Fn;rw[this,h3]
 intro a b ha hb h;refine key ha hb ?_;have:=congrArg (fun s:ByteArray=>s.data.toList) h;simpa[oF]using this
def vG(hT:∀t i,(t,i)∈cx.ty->TIok P t i){op:BinOp}(BM:op=.eql\/op=.neq){xt yt:Nat}(Ad:o.op=.binOp op xt x y yt){a b:E}(hx:vw.ev x=ZA (.one (.str a)))(hy:vw.ev y=ZA (.one (.str b)))(hi:ap xt cx.ty=ZA i)(hk:i.kd=2)(Lz:a.lok kw.vk [ZA .u8]=ZB)(hlb:b.lok kw.vk [ZA .u8]=ZB)(h:(k {val:=.one (.bool (if op=.eql then .leq a b else eD (.leq a b)))} kw).holds sp G U I)(hg:Good sp cx.sm U kw):Sound P sp U G I base cx vw o k kw:=by
 have hu:=(hT _ _ (af hi)).stg hk;have DM:((oF (a.R U)).toList==(oF (b.R U)).toList)=(a.R U==b.R U):=by rw[ao,cQ,cQ,ByteArray.toList_eq,ByteArray.toList_eq];refine⟨fun h=>aeU (E.lok_ok hg.vk a Lz) (E.lok_ok hg.vk b hlb) ?_,fun h=>by rw[h]⟩;have h2:(oF (a.R U)).data=(oF (b.R U)).data:=Array.toList_inj.1 h;cases h3:oF (a.R U);cases h4:oF (b.R U);rw[h3,h4]at h2;simp only at h2;rw[h2]
 refine⟨_,kw,h,hg,.refl _,OpOk.pure fun j ac w _ Au _ _ _=>⟨.bool (if op=.eql then(a.R U==b.R U)else !(a.R U==b.R U)),?_,?_⟩⟩
 .rcases BM with rfl|rfl<;>simp[V.den,C.den,dn,E.B]
 .have h1:ac.eval x=.string (oF (a.R U)):=(ZN (Au x Or _ hx)).symm;have h2:ac.eval y=.string (oF (b.R U)):=(ZN (Au y Or _ hy)).symm;rcases BM with rfl|rfl<;>simp[execOp,Ad,h1,h2,eqGuard,binOp,Op.stringOp,DM,ZI]
end
def mS(kd:IntKind)(l:E):Nat->Nat->List C
 |_,0=>[]
 |i,n+1=>.int kd (.get l (.p i) 0)::mS kd l (i+1) n
section
variable {P:Program}{sp:Spec}{U:Env}{G:Env->E->Prop}{I:Nat->List Dt->Prop}{base:Nat}{cx:Cx}{vw:Vw}{o:Oper}{k:Eff->Kw->Tr}
def acL(hT:∀t i,(t,i)∈cx.ty->TIok P t i)(Ad:o.op=.index t x y){cs:List C}(hx:vw.ev x=ZA (.agg cs))(hy:vw.ev y=ZA (.one (.int k0 e)))(hi:ap t cx.ty=ZA i)
   (ha:i.arr=ZA (n,et))  (BA:ap et cx.ty=ZA ie) (AZ:cs.length=n*ie.size) (h:(AK (Ks e n) (fun ok kw=>if ok then(match zC e n ie.size cs 0 ie.size with
    |some ds=>if ie.agg then k {val:=.agg ds} kw else(match ds with
      |[d]=>k {val:=.one d} kw
      |_=>.stuck 195)
    |none=>.stuck 196)else .panic) kw).holds sp G U I) (hg:Good sp cx.sm U kw):Sound P sp U G I base cx vw o k kw:=by
 obtain⟨Cc,g1,q1,_,l1⟩:=aO _ _ _ h hg;rw[QC]at g1;split at g1
 .rename_i hr;rw[ne,aE,aE]at hr;have hu:=(hT _ _ (af hi)).arr n et ha;have ht:=hT _ _ (af BA);split at g1
  .rename_i ds Br;have key:∀{j:J} {a:Act} (w:World),(∀x∈o.op.operands.toList,∀v,vw.ev x=ZA v->v.den U j=ZA (a.eval x))->∃vs:List Value,Af U j ds=ZA ((vs.drop ((e.I U).toNat*ie.size+0)).take ie.size)/\ds.length=ie.size/\(execOp a.eval o).run P w=((part et vs.toArray ((e.I U).toNat*ie.size)).run P w).andThen fun v w=>.ok (.value v) w:=by
    intro j a w Au;have hd:=Au x Or _ hx;simp only[V.den,Ay]at hd;obtain⟨vs,EN,hp⟩:=hd;have hq:=cF (Au y Or _ hy);obtain⟨e1,e2⟩:=uK EN hr.1 hr.2 ie.size 0 ds Br;refine⟨vs,e2,e1,?_⟩;simp[execOp,Ad,<-hp,hq,Instr.index,run_underlying hu,asIntOf,hr,ht.size,ZI]
   split at g1
   .rename_i Bu;refine⟨_,Cc,g1,q1,l1,OpOk.pure fun j a w _ Au _ _ _=> ?_⟩;obtain⟨vs,h1,h2,h3⟩:=key (j:=j) (a:=a) w Au;refine⟨.agg ((vs.drop ((e.I U).toNat*ie.size+0)).take ie.size).toArray,by simp only[V.den,h1,YR],?_⟩;rw[h3];have h4:vs.toArray.extract ((e.I U).toNat*ie.size) ((e.I U).toNat*ie.size+ie.size)=((vs.drop ((e.I U).toNat*ie.size+0)).take ie.size).toArray:=by
     simp[List.extract_eq_take_drop]
    simp only[part,ZI,ht.agg,Bu,Result.andThen_ok,bm,ht.size,h4,Sem.run_pure]
   .rename_i Bu;split at g1
    .rename_i d;refine⟨_,Cc,g1,q1,l1,OpOk.pure fun j a w _ Au _ _ _=> ?_⟩;obtain⟨vs,h1,h2,h3⟩:=key (j:=j) (a:=a) w Au;simp only[Af]at h1;cases hdd:d.den U j with
     |none=>rw[hdd]at h1;cases h1
     |some v=>
       rw[hdd,bo]at h1;refine⟨v,hdd,?_⟩;have hz:ie.size=1:=h2.symm;have h4:vs[(e.I U).toNat*ie.size]? =ZA v:=by have:=congrArg (fun l=>l[0]?) h1;simp only[cD,List.getElem?_take,hz,List.getElem?_drop,ZR]at this;rw[ae Fn]at this;rw[hz];exact this.symm
       have h5:vs.toArray[(e.I U).toNat*ie.size]? =ZA v:=by simpa using h4
       have DB:ie.agg=ZC:=Yy;rw[h3];simp only[part,ZI,ht.agg,DB,Result.andThen_ok,h5];simp
    .exact g1.elim
  .exact g1.elim
 .exact g1.elim
def opX(cx:Cx)(vw:Vw)(op:Op)(kw:Kw)(k:Eff->Kw->Tr):Option Tr:=match op with
 |.binOp op xt x y _=>match vw.ev x,vw.ev y with
   |some (.one c),ZA (.one d)=>match ap xt cx.ty with
     |some i=>
       if ZJ i.kd 1 then(match T1 c d,op with
        |some b,.eql=>ZA (k {val:=.one (.bool (.tt b))} kw)
        |some b,.neq=>ZA (k {val:=.one (.bool (.tt (!b)))} kw)
        |_,_=>ZE)
       else if ZJ i.kd 2 then(match c,d with
        |.str a,.str b=>if a.lok kw.vk [ZA .u8]&&b.lok kw.vk [ZA .u8]then(match op with
          |.eql=>ZA (k {val:=.one (.bool (.leq a b))} kw)
          |.neq=>ZA (k {val:=.one (.bool (eD (.leq a b)))} kw)
          |_=>ZE)else ZE
        |_,_=>ZE)
       else ZE
     |none=>ZE
   |_,_=>ZE
 |.indexAddr t x y=>match vw.ev x,vw.ev y,ap t cx.ty with
   |some (.one (.wn id sz lo hi mx)),ZA (.one (.int _ e)),ZA i=>match i.sle with
     |some et=>match ap et cx.ty,vw.sw id with
       |some ie,ZA r=>if ZJ r.ks.length ie.size&&ZJ sz ie.size then
        ZA (AK (MD r.l lo hi mx) (fun ok kw=>if ok then AK (GS e (jh (jg r.l hi) lo)) (fun b kw=>if b then k {val:=.one (.ep id ie.size (J6 lo e) 0),rr:=[id]} kw else .panic) kw else .stuck 185) kw)
         else ZE
       |_,_=>ZE
     |none=>ZE
   |some (.one (.fp b off)),ZA (.one (.int _ e)),ZA i=>match i.arr with
     |some (n,et)=>match ap et cx.ty with
       |some ie=>ZA (ud e n (fun m kw=>k {val:=.one (.fp b (off+m*ie.size))} kw) n kw)
       |none=>ZE
     |none=>ZE
   |_,_,_=>ZE
 |.index t x y=>match vw.ev x,vw.ev y,ap t cx.ty with
   |some (.agg cs),ZA (.one (.int _ e)),ZA i=>if ao0 cx &&!e.isLit then(match i.arr with
     |some (n,et)=>match ap et cx.ty with
       |some ie=>if ZJ cs.length (n*ie.size)then ZA (AK (Ks e n) (fun ok kw=>if ok then(match zC e n ie.size cs 0 ie.size with
        |some ds=>if ie.agg then k {val:=.agg ds} kw else(match ds with
          |[d]=>k {val:=.one d} kw
          |_=>.stuck 195)
        |none=>.stuck 196)else .panic) kw)else ZE
       |none=>ZE
     |none=>ZE)else ZE
   |_,_,_=>ZE
 |_=>ZE
def asp(hT:∀t i,(t,i)∈cx.ty->TIok P t i)(ht:opX cx vw o.op kw k=ZA tr)(h:tr.holds sp G U I)(hg:Good sp cx.sm U kw):Sound P sp U G I base cx vw o k kw:=by
 cases Ad:o.op<;>rw[Ad]at ht<;>simp only[opX]at ht
 case binOp op xt x y yt=>
  split at ht
  .rename_i c d hx hy;split at ht
   .rename_i i hi;split at ht
    .rename_i hk;split at ht
     next b hb=>cases ht;exact ae9 hT (.inl rfl) Ad hx hy hi (Ak hk) hb h hg
     next b hb=>cases ht;exact ae9 hT (.inr rfl) Ad hx hy hi (Ak hk) hb h hg
     .exact Xr
    .split at ht
     .rename_i hk;split at ht
      .rename_i a b;split at ht
       .rename_i hl;rw[ne]at hl;split at ht
        .cases ht;exact vG hT (.inl rfl) Ad hx hy hi (Ak hk) hl.1 hl.2 h hg
        .cases ht;exact vG hT (.inr rfl) Ad hx hy hi (Ak hk) hl.1 hl.2 h hg
        .exact Xr
       .exact Xr
      .exact Xr
     .exact Xr
   .exact Xr
  .exact Xr
 case indexAddr t x y=>
  split at ht
  .rename_i id sz lo Bg mx k0 e i hx hy hi;split at ht
   .rename_i et ha;split at ht
    .rename_i ie r BA hr;split at ht
     next Cq=>rw[ne]at Cq;cases ht;exact acK hT Ad hx hy hi ha BA hr (Ak Cq.1) (Ak Cq.2) h hg
     .exact Xr
    .exact Xr
   .exact Xr
  .rename_i b off k0 e i hx hy hi;split at ht
   .rename_i n et ha;split at ht
    next ie BA=>cases ht;exact iN hT Ad hx hy hi ha BA (c':=fun m=>.fp b (off+m*ie.size)) (fun m j v hv=>abF hv) h hg
    .exact Xr
   .exact Xr
  .exact Xr
 case index t x y=>
  split at ht
  .rename_i cs k0 e i hx hy hi;split at ht
   .split at ht
    .rename_i n et ha;split at ht
     .rename_i ie BA;split at ht
      next hl=>cases ht;exact acL hT Ad hx hy hi ha BA (Ak hl) h hg
      .exact Xr
     .exact Xr
    .exact Xr
   .exact Xr
  .exact Xr
 all_goals cases ht
end
def RdRow.kept(h:RdRow w Bt s xs)(hb:∀k,s.blk ZC=ZA k->w'.heap[k]? =w.heap[k]?):RdRow w' Bt s xs:=by
 obtain⟨h1,h2,h3,h4,h5⟩:=h;refine⟨h1,h2,h3,h4,fun a ha i u hu=> ?_⟩;have hc:s.c≠0:=fun hc=>by have As:=(cZ.1 hu).1;have:s.n=0:=Fn;rw[h1,this]at As;omega
 have:=h5 a ha i u hu;have DV:(a.add i).block=a.block:=YE;have he:w'.heap[(a.add i).block]? =w.heap[(a.add i).block]? :=by rw[DV];exact hb a.block (mZ hc (by simp[SV.v,ha,Value.ownBlock]))
 rw[World.cell?_of_block he];exact this
def mU:∀{L:LL} {ins:List SV},ins.length=L.length->∀(L':LL) (K8:List SV),gY L ins++gY L' K8=gY (L++L') (ins++K8)
 |[],[],_,L',K8=>rfl
 |r::L,x::ins,h,L',K8=>by simp only[gY,List.cons_append,List.append_assoc,mU (L:=L) (ins:=ins) Xx L' K8]
 |[],_::_,h,_,_=>by cases h
 |_::_,[],h,_,_=>by cases h
def sB:∀{L:LL} {ins:List SV},∀u∈gY L ins,u.oneCell'=ZB
 |r::L,x::ins,u,hu=>by
   simp only[gY,ZY]at hu;rcases hu with hu|hu
   .simp only[aix,YS,List.not_mem_nil,or_false]at hu;rcases hu with rfl|rfl|rfl<;>rfl
   .exact sB u hu
 |[],_,u,hu=>by cases hu
 |_::_,[],u,hu=>by cases hu
def aae:∀{L:LL},(∀r∈L,az [ZA .u64] r=ZB)->∃xs:List Int,L=xs.map fun x=>[x]
 |[],_=>⟨[],rfl⟩
 |r::L,h=>by
   obtain⟨xs,rfl⟩:=aae (fun q hq=>h q (cR _ hq));have h1:=h r bW
   match r,h1 with
   |[x],_=>exact⟨x::xs,rfl⟩
   |x::y::l,h1=>simp[az]at h1
def evA(l:E):E:=.cons (rk l (.p 0) 0) (.cons (rk l (.p 1) 0) (.cons (rk l (.p 2) 0) (.cons (rk l (.p 3) 0) (.cons (rk l (.p 4) 0) .nil))))
def LU(vk:List VK)(e1 e2 l:E):E:=.cons e1 (.cons e2 (.cons (IY vk l) (evA l)))
def avW{e1 e2:E}(hl:(l.R U).length<=maxLen):(LU vk e1 e2 l).L U=[e1.I U,e2.I U,((l.R U).length:Int),gt (l.R U) 0 0,gt (l.R U) 1 0,gt (l.R U) 2 0,gt (l.R U) 3 0,gt (l.R U) 4 0]:=by simp only[LU,evA,E.L,yX,E.I];rw[ze (kw:=⟨[],[],vk,0⟩) hl]
def aq5{L:LL}(h:∀r∈L,az [ZA .u64] r=ZB)(h5:L.length<=5)(a b:Int):aiy [a,b,(L.length:Int),gt L 0 0,gt L 1 0,gt L 2 0,gt L 3 0,gt L 4 0]=flat [ZA .u64] L/\([a,b,(L.length:Int),gt L 0 0,gt L 1 0,gt L 2 0,gt L 3 0,gt L 4 0].drop 3).drop L.length=ZM (5-L.length) 0:=by
 obtain⟨xs,rfl⟩:=aae h
 match xs,h5 with
 |[],_=>exact⟨rfl,rfl⟩
 |[x],_=>exact⟨rfl,rfl⟩
 |[x,y],_=>exact⟨rfl,rfl⟩
 |[x,y,z],_=>exact⟨rfl,rfl⟩
 |[x,y,z,u],_=>exact⟨rfl,rfl⟩
 |[x,y,z,u,v],_=>exact⟨rfl,rfl⟩
 |_::_::_::_::_::_::_,h=>simp at h
def Vw.evw(vw:Vw)(id:Nat):Option RowOb:=match vw.rw id with
 |some r=>if r.kd.isEv then ZA r else ZE
 |none=>ZE
def Vw.evw_some{vw:Vw}{id:Nat}(h:vw.evw id=ZA r):vw.rw id=ZA r/\r.kd=.ev:=by
 unfold Vw.evw at h;split at h
 .rename_i q hq;split at h
  next hk=>cases h;exact⟨hq,RK.isEv_eq hk⟩
  .exact Xo
 .exact Xo
section
variable {P:Program}{sp:Spec}{U:Env}{G:Env->E->Prop}{I:Nat->List Dt->Prop}{base:Nat}{cx:Cx}{vw:Vw}{o:Oper}{k:Eff->Kw->Tr}
def RrOk.ev{rr:List Nat}(h:RrOk U base j w vw.rw rr)(id:Nat)(IA:id∈rr)(r:RowOb)(hr:vw.evw id=ZA r):∃s,j.s id=ZA s/\EvOk U base w s r/\Zin j s/\∀p∈s.z,w.heap[p.1]? =ZA p.2:=by obtain⟨h1,h2⟩:=Vw.evw_some hr;obtain⟨s,h3,h4,h5⟩:=h id IA r h1;exact⟨s,h3,h4.2.2 h2,h5.1,h5.2.1⟩
def wx(hT:∀t i,(t,i)∈cx.ty->TIok P t i)(Ad:o.op=.buildSlice t n ps)(Gy:KI vw.ev ps.toList=ZA A5)(hi:ap t cx.ty=ZA i)(ha:i.sle=ZA et)(BA:ap et cx.ty=ZA ie)
  {cs:List C} (Eg:rq (fun m=>ZA (m*ie.size,ie.size)) ((ZM n ie.zero).flatten) A5=ZA cs) (Ee:n*ie.size<=16777216) (Ei:0<n*ie.size)    (Au:∀x∈o.op.operands.toList,∀v,vw.ev x=ZA v->v.den U j=ZA (a.eval x)):
  ∃cells:Array Value,Af U j cs=ZA cells.toList/\(execOp a.eval o).run P w=.ok (.value (.slice (ZA ⟨w.heap.size,0,ZE⟩) n n)) (w.alloc (.cells cells et)):=by
 obtain⟨h1,h2⟩:=TK (a:=a) (j:=j) Gy (fun x hx=>Au x (by
  simp only[Ad,Op.operands];simpa using hx))
 have h3:(ps.map fun p=>(p.1,a.eval p.2)).toList=ps.toList.map fun p=>(p.1,a.eval p.2):=Array.toList_map ..;have hx:execOp a.eval o=(do let v <-Instr.buildSlice t n (ps.map fun p=>(p.1,a.eval p.2));pure (.value v)):=by simp only[execOp,Ad]
 have hu:=(hT _ _ (af hi)).sle et ha;have OS:=hT _ _ (af BA);have BR:=OS.size;obtain⟨CL,z,C7,Cy,_,hz,Ih,II⟩:=OS.info;have Jh:z.cells.size=ie.size:=by simpa using Ih
 have zer:Af U j ((ZM n ie.zero).flatten)=ZA (madeCells z.cells (n*ie.size)).toList:=by
  rw[<-Jh,oR];have:∀n,Af U j ((ZM n ie.zero).flatten)=ZA ((ZM n z.cells.toList).flatten):=by
   intro n
   induction n with
   |zero=>rfl
   |succ n ih=>simp only[List.replicate_succ,List.flatten_cons];exact gB (II U j) ih
  exact this n
 obtain⟨cells,h4,h5⟩:=qE (j:=j) A5 _ cs _ (madeCells z.cells (n*ie.size)) Eg zer h1 h2;refine⟨cells,h5,?_⟩;rw[hx];have KO:¬(16777216<n*ie.size):=Fn;have P1:¬n*ie.size=0:=Fn;simp only[madeCells]at h4;simp[Instr.buildSlice,ZI,run_underlying hu,BR,h3,KO,P1,zeroValue,typeInfo,C7,hz,h4,newRow]
def aff(hT:∀t i,(t,i)∈cx.ty->TIok P t i)(Ad:o.op=.buildSlice t 1 ps)(Gy:KI vw.ev ps.toList=ZA A5)(hi:ap t cx.ty=ZA i)(ha:i.sle=ZA et)(BA:ap et cx.ty=ZA ie){e1 e2:E}{id:Nat}(Eg:rq (fun m=>ZA (m*ie.size,ie.size)) ((ZM 1 ie.zero).flatten) A5=ZA [.int .i64 e1,.sl id,.int .u64 e2])(h3:ie.size=3)(hr:vw.sw id=ZA r)(AL:r.own=ZB)(Cq:r.ks=[ZA .u64])(hrok:(LU kw.vk e1 e2 r.l).rok kw.vk Dn=ZB)(h:(AK (Bl (.p 5) (dG r.l)) (fun b An=>if b then .stuck 220 else k {val:=.one (.sl vw.nid),rr:=[id],re:=.frz id {r with own:=ZC} ⟨Dn,et,.lq .ln (LU kw.vk e1 e2 r.l),ZB,.ev⟩} An) kw).holds sp G U I)(hg:Good sp cx.sm U kw):Sound P sp U G I base cx vw o k kw:=by
 obtain⟨Cc,h1,g1,_,l1⟩:=aO _ _ _ h hg;rw[dh,dF]at h1;split at h1
 .exact h1.elim
 rename_i h5;have h5:(r.l.R U).length<=5:=by have:¬(5:Int)<((r.l.R U).length:Int):=Ab (Bool.eq_false_iff.2 h5);omega
 refine⟨_,Cc,h1,g1,l1,fun j a w hb Au By Ca BQ Ef K Q hK=> ?_⟩;obtain⟨cells,hd,Cl⟩:=wx (U:=U) (w:=w) hT Ad Gy hi ha BA Eg Fn Fn Au;obtain⟨s,hs,Aj⟩:=BQ.sl id (by simp) r hr;have AS:∀q∈r.l.R U,az [ZA .u64] q=ZB:=by have:=Aj.rows.row;rw[Cq]at this;exact this
 have hL:=avW (U:=U) (vk:=kw.vk) (e1:=e1) (e2:=e2) (l:=r.l) Aj.rows.len;obtain⟨f1,f2⟩:=aq5 AS h5 (e1.I U) (e2.I U);have AW:az Dn ((LU kw.vk e1 e2 r.l).L U)=ZB:=E.rok_ok hg.vk hrok;have hc:cells.toList=gY [(LU kw.vk e1 e2 r.l).L U] [s]:=by simp only[Af,C.den,hs,YR,bo]at hd;rw[<-hd,hL];rfl
 have K4:=Aj.own AL;obtain⟨z,Ey,LC,hz3⟩:∃z:List (Nat×Obj),z.length<=1/\(∀p∈z,w.heap[p.1]? =ZA p.2/\Cg p.2=ZB/\s.v.ownBlock=ZA p.1)/\∀k,s.v.ownBlock=ZA k->∃o,(k,o)∈z:=by
  rcases K4.2 with⟨hv,_⟩|⟨g,Hp,cur,hv,hbg,hh,_⟩
  .exact⟨[],by simp,fun p hp=>Ym,fun k hk=>by rw[hv]at hk;cases hk⟩
  .refine⟨[(g,.cells cur r.ty (0,0))],by simp,fun p hp=> ?_,fun k hk=> ?_⟩
   .rw[dA.1 hp];exact⟨hh,rfl,by rw[hv];rfl⟩
   .rw[hv]at hk;cases hk;exact⟨_,dA.2 rfl⟩
 have hei:EiOk z ((LU kw.vk e1 e2 r.l).L U) s:=by rw[hL];refine⟨by rw[Aj.n];rfl,by rw[Aj.n];exact h5,by rw[Aj.n];exact f2,fun w' hw=> ?_,fun k hk=>hz3 k (ay hk)⟩;have By:=Aj.rd;rw[Cq]at By;rw[f1];refine RdRow.kept By (fun k hk=> ?_);obtain⟨o,ho⟩:=hz3 k (ay hk);rw[hw _ ho,(LC _ ho).1]
 have hx:Ext w (w.alloc (.cells cells et)):=Ext.of_grown (World.grownBy_alloc w _ ZE);have own:=World.ownsRow_lit (base:=w.heap.size) (e:=et) (size:=3) w cells 1 (ZK _) (by simp[maxLen]) (by rw[<-Array.length_toList,hc];rfl);refine dH (w':=w.alloc (.cells cells et)) (v:=(⟨ZA ⟨w.heap.size,0,ZE⟩,1,1,z⟩:SV).v) Cl (hK _ _ _ ?_ ⟨hx,s,⟨ZA ⟨w.heap.size,0,ZE⟩,1,1,z⟩,hs,SlOk.row ⟨Aj.n,Aj.rows,Aj.pos,fun k hk=>Aj.lt k (by rw[AL];exact bN hk),fun ho=>(by cases ho),Aj.rd⟩ (Vw.sw_some hr).2,?_,fun k hk=>(by cases hk;exact ZK _),Ey,LC,rfl,(fun e=>by rw[show r.kd=.sl from(Vw.sw_some hr).2]at e;cases e),(fun e=>by cases e)⟩)
 .have e1:((j.putS vw.nid ⟨ZA ⟨w.heap.size,0,ZE⟩,1,1,z⟩).addz z).s=(j.putS vw.nid ⟨ZA ⟨w.heap.size,0,ZE⟩,1,1,z⟩).s:=by cases z<;>rfl
  simp only[V.den,C.den];rw[e1];simp[J.putS]
 .rw[hc]at own;refine EvOk.row ⟨rfl,?_,⟨fun q hq=> ?_,by simp[E.R,maxLen]⟩,fun k hk=> ?_,fun _ p hp=> ?_,[s],?_,fun _=> ?_,?_,fun i row x Bg F9=> ?_⟩ rfl
  .simp[E.R]
  .simp only[E.R,YP,dA]at hq;rw[hq];exact AW
  .have:=(rR (s:=⟨ZA ⟨w.heap.size,0,ZE⟩,1,1,z⟩) own k (ay hk)).1;exact this
  .exact(rR K4 _ (LC p hp).2.2).2
  .simp[E.R]
  .simp only[E.R,YP];exact own.mono hb
  .simp only[E.R,YP];exact qe (s:=⟨ZA ⟨w.heap.size,0,ZE⟩,1,1,z⟩) own
  .cases i with
   |zero=>simp only[E.R,YP,cD,bo]at Bg F9;rw[<-Bg,<-F9];exact hei
   |succ i=>simp at F9
def afg(hT:∀t i,(t,i)∈cx.ty->TIok P t i)(Ad:o.op=.call c)(hc:c.callee=.builtin .len){id:Nat}(hl:Ew vw.ev c.args.toList=ZA [.one (.sl id)])(C8:c.argTypes.toList=[t])(hi:ap t cx.ty=ZA i)(Gk:i.sle.isSome=ZB)(hr:vw.evw id=ZA r)(h:(k {val:=.one (.int .i64 (IY kw.vk r.l)),rr:=[id]} kw).holds sp G U I)(hg:Good sp cx.sm U kw):Sound P sp U G I base cx vw o k kw:=by
 refine⟨_,kw,h,hg,.refl _,OpOk.pure fun j a w _ Au _ BQ _=> ?_⟩;obtain⟨s,hs,Aj,_⟩:=BQ.ev id (by simp) r hr;obtain⟨h1,h2⟩:=jn (j:=j) (a:=a) hl (fun x hx=>Au x Xp);have h3:c.args.map a.eval = #[s.v]:=by
  have:c.args.toList.map a.eval=[s.v]:=by
   match hm:c.args.toList.map a.eval,h2 with
   |[u],_=>rw[hm]at h1;rw[tM hs (h1 0 _ u rfl rfl)]
  rw[<-Array.toArray_toList (xs:=c.args.map a.eval),Array.toList_map,this]
 obtain⟨et,L7⟩:=Option.isSome_iff_exists.1 Gk;have hu:=(hT _ _ (af hi)).sle et L7;have Dx:c.argTypes = #[t]:=Xu;have HP:(r.l.R U).length<=maxLen:=Aj.rows.len;refine⟨.int .i64 (s.n:Int),by rw[Aj.n];simp[V.den,C.den,ze HP],?_⟩;simp[execOp,Ad,resolve,hc,h3,Dx,ZI,invoke,builtin,Builtin.len_,run_underlying hu,SV.v,goInt]
def vF(hT:∀t i,(t,i)∈cx.ty->TIok P t i)(Ad:o.op=.call c)(hc:c.callee=.builtin .append){old id:Nat}(hl:Ew vw.ev c.args.toList=ZA [.one (.sl old),.one (.sl id)])(C8:c.argTypes.toList=[t,t])(hi:ap t cx.ty=ZA i)(ha:i.sle=ZA et)(BA:ap et cx.ty=ZA ie)(hr:vw.evw id=ZA r)(RD:vw.evw old=ZA q)(h3:ie.size=3)(hby:ie.bytes<=65536)(Gj:r.own=ZB)(F8:q.own=ZB)(hqt:q.ty=et)(h:(AK (im (Bl (dG q.l) (.p EP)) (Bl (dG r.l) (.p EP))) (fun b kw=>if b then k {val:=.one (.sl vw.nid),rr:=[old,id],re:=.app old ⟨Dn,et,DR q.l r.l,ZB,.ev⟩} kw else .panic) kw).holds sp G U I)(hg:Good sp cx.sm U kw):Sound P sp U G I base cx vw o k kw:=by
 obtain⟨Cc,h1,g1,_,l1⟩:=aO _ _ _ h hg;rw[dV,dh,dh,dF,dF]at h1;split at h1
 .rename_i Ee;rw[ne]at Ee;have Iv:((q.l.R U).length:Int)<1073741824:=Ah Ee.1;have DU:((r.l.R U).length:Int)<1073741824:=Ah Ee.2;refine⟨_,Cc,h1,g1,l1,fun j a w hb Au By Ca BQ Ef K Q hK=> ?_⟩;obtain⟨s,hs,Aj,Jh⟩:=BQ.ev id (by simp) r hr;obtain⟨p,hp,GP,hzp⟩:=BQ.ev old (by simp) q RD;obtain⟨u1,u2,B3,Kk,Iy⟩:=QI (j:=j) (a:=a) hl (fun x hx=>Au x Xp);have e1:=tM hp Kk;have e2:=tM hs Iy;subst e1 e2;have hu:=(hT _ _ (af hi)).sle et ha;obtain⟨CL,z,C7,Cy,EB,hz,Ih,II⟩:=(hT _ _ (af BA)).info;have Dx:c.argTypes = #[t,t]:=Xu;have hn:=Aj.n;have hpn:=GP.n;obtain⟨ip,i1,i2,i3,i4⟩:=GP.at';obtain⟨Ve,j1,j2,j3,j4⟩:=Aj.at';have AL:=i2 F8;rw[hqt,<-h3,<-Cy]at AL;have DD:=j3;rw[<-h3,<-Cy]at DD;obtain⟨s',w',h2,k3,h4,h5,h6,h7⟩:=ew (P:=P) (base:=base) (ty:=o.type) hu C7 hz Yz Fn AL DD sB Ye
   (by
    have:(p.n+s.n)*CL.bytes<=2147483648*65536:=Nat.mul_le_mul Fn Fn;omega) hb
  rw[mU i1,Cy,h3,<-k3]at h4;have hR:(DR q.l r.l).R U=q.l.R U++r.l.R U:=anp U _ _;have K4:=j2 Gj;refine dH (w':=w') (v:=s'.v) ?_ (hK _ (j.putS vw.nid {s' with z:=p.z++s.z}) _ ?_ ⟨p,{s' with z:=p.z++s.z},hp,h5,EvOk.row ⟨rfl,?_,⟨fun x hx=> ?_,?_⟩,fun k hk=> ?_,fun _ x hx=> ?_,ip++Ve,?_,fun _=> ?_,?_,fun m row x hm hx=> ?_⟩ rfl,h6,fun x hx=> ?_,rfl,fun e=>by cases e⟩)
  .simp only[execOp,Ad,resolve,hc,B3,Dx,ZI,Sem.run_pure,Result.andThen_ok,invoke,builtin,h2]
  .simp only[V.den,C.den,J.putS,bm,YR];rfl
  .show s'.n=((DR q.l r.l).R U).length;rw[hR,eo];omega
  .have hx:x∈(DR q.l r.l).R U:=hx;rw[hR,ZY]at hx;rcases hx with hx|hx
   .have:=GP.rows.row x hx;rw[GP.ks]at this;exact this
   .have:=Aj.rows.row x hx;rw[Aj.ks]at this;exact this
  .show((DR q.l r.l).R U).length<=maxLen;rw[hR,eo];simp only[maxLen];omega
  .exact(rR (s:=s') h4 k (ay hk)).1
  .rcases ZY.1 hx with hx|hx
   .exact GP.zb F8 x hx
   .exact Aj.zb Gj x hx
  .show(ip++Ve).length=((DR q.l r.l).R U).length;rw[hR,eo,eo,i1,j1]
  .show w'.ownsRow base et 3 s'.v s'.n (gY ((DR q.l r.l).R U) (ip++Ve));rw[hR];exact h4
  .show RdRow w' 3 _ (gY ((DR q.l r.l).R U) (ip++Ve));rw[hR];exact qe h4
  .have hm:((DR q.l r.l).R U)[m]? =ZA row:=hm;rw[hR]at hm;rcases bC m (q.l.R U).length with As|DC
   .rw[A9 As]at hm;rw[A9 Fn]at hx;exact(i4 m row x hm hx).mono (fun y hy=>ZZ _ hy)
   .rw[Bo DC]at hm;rw[Bo Fn,i1]at hx;exact(j4 _ row x hm hx).mono (fun y hy=>ZV _ hy)
  .rcases ZY.1 hx with hx|hx
   .exact hzp.1 x hx
   .exact Jh.1 x hx
 .exact h1.elim
def Kz(kd:IntKind):E->List C->Option E
 |l,[]=>ZA l
 |l,.int k e::cs=>if bJ k kd then Kz kd (.lq l (.cons e .nil)) cs else ZE
 |_,_=>ZE
def ai7{kd:IntKind}{j:J}:∀{cs:List C} {l l':E} {vs:List Value},Kz kd l cs=ZA l'->Af U j cs=ZA vs->(l'.R U).length=(l.R U).length+cs.length/\flat [ZA kd] (l'.R U)=flat [ZA kd] (l.R U)++vs
 |[],l,l',vs,h,hd=>by cases h;cases hd;simp
 |.int k e::cs,l,l',vs,h,hd=>by
   simp only[Kz]at h;split at h
   .rename_i hk;simp only[Af,C.den]at hd;cases hl:Af U j cs with
    |none=>rw[hl]at hd;cases hd
    |some us=>rw[hl]at hd;cases hd;obtain⟨h1,h2⟩:=ai7 h hl;refine⟨by rw[h1];simp[E.R];omega,?_⟩;rw[h2];simp only[E.R,E.L,qC,List.append_assoc];congr 1;rw[ax hk];rfl
   .exact Xo
def JE(n:Nat)(lo hi:E):E:=im (eD (Bl lo (.p 0))) (im (eD (Bl hi lo)) (eD (Bl (.p n) hi)))
def ann(h:(JE n lo hi).B U=ZB):0<=lo.I U/\lo.I U<=hi.I U/\hi.I U<=(n:Int):=by unfold JE at h;rw[dV,dV,ne,ne,dn,dn,dn,dh,dh,dh,ZO,ZO,ZO]at h;obtain⟨h1,h2,h3⟩:=h;replace h1:¬lo.I U<0:=Ab h1;replace h2:=Ab h2;replace h3:¬(n:Int)<hi.I U:=Ab h3;exact⟨by omega,by omega,by omega⟩
def rj{l:Nat}{low high:Option Value}(hl:(low=ZE/\l=0)\/∃kd:IntKind,low=ZA (.int kd (l:Int)))(hh:(high=ZE/\h=n)\/∃kd:IntKind,high=ZA (.int kd (h:Int)))(h1:l<=h)(h2:h<=n):(Instr.sliceBounds ZC n n low high ZE).run P w=.ok (l,h,n) w:=by
 have sb:∀(kd:IntKind) (m y:Nat) code,m<=y->(Instr.sliceBound (.int kd (m:Int)) y code).run P w=.ok m w:=fun kd m y code hmy=>by have h5:(m:Int)<=(y:Int):=Fn;simp[Instr.sliceBound,asIntOf,ZI,hmy]
 rcases hl with⟨rfl,rfl⟩|⟨kd,rfl⟩<;>rcases hh with⟨rfl,rfl⟩|⟨R8,rfl⟩
 .simp[Instr.sliceBounds,ZI]
 .simp[Instr.sliceBounds,ZI,sb R8 h n _ h2]
 .simp[Instr.sliceBounds,ZI,sb kd l _ _ h1]
 .simp[Instr.sliceBounds,ZI,sb kd l h _ h1,sb R8 h n _ h2]
def acM(hT:∀t i,(t,i)∈cx.ty->TIok P t i){lo Bg:Option Operand}(Ad:o.op=.slice t x lo Bg ZE)(hx:vw.ev x=ZA (.one (.ptr b off)))(hi:ap t cx.ty=ZA i)(ha:i.arr=ZA (n,et))(BA:ap et cx.ty=ZA ie){a c:E}(Ma:JS vw lo (.p 0)=ZA a)(L9:JS vw Bg (.p n)=ZA c)(h:(AK (JE n a c) (fun ok kw=>if ok then k {val:=.one (.aw b off n ie.size a c (.p n))} kw else .panic) kw).holds sp G U I)(hg:Good sp cx.sm U kw):Sound P sp U G I base cx vw o k kw:=by
 obtain⟨Cc,h1,g1,_,l1⟩:=aO _ _ _ h hg;split at h1
 .rename_i hb;obtain⟨b1,b2,b3⟩:=ann hb;refine⟨_,Cc,h1,g1,l1,OpOk.pure fun j ac w _ Au _ _ _=> ?_⟩;obtain⟨kk,hk,hv⟩:=mH (Au x Or _ hx);have hu:=(hT _ _ (af hi)).arr _ _ ha;have BR:=(hT _ _ (af BA)).size w;have FZ:(lo.map ac.eval=ZE/\(a.I U).toNat=0)\/∃kd:IntKind,lo.map ac.eval=ZA (.int kd (((a.I U).toNat:Nat):Int)):=by
   rcases ah7 Ma with⟨rfl,rfl⟩|⟨y,kd,rfl,hy⟩
   .exact .inl ⟨rfl,rfl⟩
   .refine .inr ⟨kd,?_⟩;rw[YR,cF (Au y Or _ hy),Int.toNat_of_nonneg b1]
  have hh1:(Bg.map ac.eval=ZE/\(c.I U).toNat=n)\/∃kd:IntKind,Bg.map ac.eval=ZA (.int kd (((c.I U).toNat:Nat):Int)):=by
   rcases ah7 L9 with⟨rfl,rfl⟩|⟨y,kd,rfl,hy⟩
   .exact .inl ⟨rfl,by simp[E.I]⟩
   .refine .inr ⟨kd,?_⟩;rw[YR,cF (Au y Or _ hy),Int.toNat_of_nonneg Fn]
  refine⟨_,by simp only[V.den,C.den,hk,YR,E.I];rfl,?_⟩;have b1':=rj (P:=P) (w:=w) FZ hh1 Fn Fn;have Cl:(Instr.sliceAt t (.pointer (ZA ⟨kk,off,ZE⟩)) (lo.map ac.eval) (Bg.map ac.eval) ZE).run P w=.ok ((⟨ZA ⟨kk,off,ZE⟩,n,n,[]⟩:SV).cut ie.size (a.I U).toNat (c.I U).toNat n).v w:=by simp only[Instr.sliceAt,ZI,run_underlying hu,Result.andThen_ok,ZW,asAddr,Sem.run_pure,b1',BR,SV.cut,SV.v];congr 2;split<;>rfl
  have e3:Option.map ac.eval (ZE:Option Operand)=ZE:=rfl;simp only[execOp,Ad,hv,ZI,e3,Cl,Result.andThen_ok,Sem.run_pure];rfl
 .exact h1.elim
def acP(hT:∀t i,(t,i)∈cx.ty->TIok P t i)(Ad:o.op=.call c)(hc:c.callee=.builtin .append){Bg mx:E}(hl:Ew vw.ev c.args.toList=ZA [.one .nsl,.one (.aw b off n 1 lo Bg mx)])(C8:c.argTypes.toList=[t,t])(hi:ap t cx.ty=ZA i)(ha:i.sle=ZA et)(BA:ap et cx.ty=ZA ie){cs:List C}(AW:vw.row b off n=ZA cs){L:E}(hL:Kz kd .ln cs=ZA L)(hlok:L.lok kw.vk [ZA kd]=ZB)(MK:ie.size=1)(hby:ie.bytes<=65536)(P1:0<n)(UV:n<=65536)(h:(AK (im (JE n lo Bg) (im (eD (Bl mx Bg)) (eD (Bl (.p n) mx)))) (fun ok kw=>if ok then k {val:=.one (.sl vw.nid),rd:=eb b off n,re:=.mk [⟨[ZA kd],et,jh (jg L Bg) lo,ZB,CR [ZA kd]⟩]} kw else .stuck 224) kw).holds sp G U I)(hg:Good sp cx.sm U kw):Sound P sp U G I base cx vw o k kw:=by
 obtain⟨Cc,h1,g1,_,l1⟩:=aO _ _ _ h hg;split at h1
 .rename_i hb;rw[dV,ne]at hb;obtain⟨b1,b2,b3⟩:=ann hb.1;have OI:Bg.I U<=mx.I U/\mx.I U<=(n:Int):=by
   have h9:=hb.2;rw[dV,ne,dn,dn,dh,dh,ZO,ZO]at h9;have h7:=Ab h9.1;have h8:¬((n:Int)<mx.I U):=Ab h9.2;omega
  refine⟨_,Cc,h1,g1,l1,fun j a w hbs Au By Ca BQ Ef K Q hK=> ?_⟩;obtain⟨u1,u2,B3,Kk,Iy⟩:=QI (j:=j) (a:=a) hl (fun x hx=>Au x Xp);have e1:=Xi Kk;simp only[V.den,C.den,Ay]at Iy;obtain⟨kk,hk,e2⟩:=Iy;subst e1 e2;have hu:=(hT _ _ (af hi)).sle et ha;obtain⟨CL,z,C7,Cy,EB,hz,Ih,II⟩:=(hT _ _ (af BA)).info;have Dx:c.argTypes = #[t,t]:=Xu;obtain⟨Nm,vs,EN,BB⟩:=nF (U:=U) (w:=w) hk (vw.rowok _ _ _ _ AW) By;obtain⟨q1,q2⟩:=ai7 hL EN;simp only[E.R,List.length_nil,bP,alx,YP]at q1 q2;have vlen:vs.length=n:=by rw[aV EN,Nm]
  have AS:RowsIn [ZA kd] (L.R U):=⟨E.lok_ok hg.vk L hlok,by rw[q1,Nm];simp only[maxLen];omega⟩
  have WL:∀m,(⟨kk,off,ZE⟩:Addr).add m=⟨kk,off+m,ZE⟩:=fun m=>by unfold Addr.add;split<;>simp_all
  have RH:SlOk U base w ⟨ZA ⟨kk,off,ZE⟩,n,n,[]⟩ ⟨[ZA kd],et,L,ZC,.sl⟩:=by
   refine⟨by show n=_;rw[q1,Nm],AS,by simp,fun k B2=> ?_,fun ho=>(by cases ho),?_⟩
   .have B2:=ay B2;simp only[SV.v,Value.ownBlock,bo]at B2;subst B2;have h0:0<vs.length:=Fn;exact World.block_lt_of_cell? w ⟨kk,off+0,ZE⟩ (BB 0 vs[0] (AH h0))
   .refine⟨by rw[q2,vlen];simp,ZK _,by simp only[maxLen];omega,fun h=>Xo,fun ad Ot m u hm=> ?_⟩;cases Ot;rw[WL];exact BB m u (by rw[<-q2];exact hm)
  have Ix:=ajy (q:=⟨[ZA kd],et,jh (jg L Bg) lo,ZC,.sl⟩) RH ⟨rfl,rfl⟩ (by rw[ur,uo]) (l:=(lo.I U).toNat) (h:=(Bg.I U).toNat) (m:=(mx.I U).toNat) Fn (by show _<=n;omega) Fn (by show _<=n;omega);have hn:((⟨ZA ⟨kk,off,ZE⟩,n,n,[]⟩:SV).cut 1 (lo.I U).toNat (Bg.I U).toNat (mx.I U).toNat).n=((jh (jg L Bg) lo).R U).length:=Ix.n;have DD:RdRow w CL.size ((⟨ZA ⟨kk,off,ZE⟩,n,n,[]⟩:SV).cut 1 (lo.I U).toNat (Bg.I U).toNat (mx.I U).toNat) (flat [ZA kd] ((jh (jg L Bg) lo).R U)):=by rw[Cy,MK];exact Ix.rd
  have AZ:((jh (jg L Bg) lo).R U).length<=65536:=by rw[ur,uo,List.length_drop,YZ];omega
  obtain⟨s',w',h2,h3,h4,h5,h6,h7⟩:=ew (P:=P) (base:=w.heap.size) (ty:=o.type) hu C7 hz Yz Fn (World.ownsRow_nil w w.heap.size et CL.size) DD uE (by rw[hn];simp only[maxLen];omega)
   (by
    have:(0+(SV.cut ⟨ZA ⟨kk,off,ZE⟩,n,n,[]⟩ 1 (lo.I U).toNat (Bg.I U).toNat (mx.I U).toNat).n)*CL.bytes<=65536*65536:=Nat.mul_le_mul (by rw[hn];omega) Fn;omega) (ZK _)
  simp only[bP,YP]at h3 h4;rw[Cy,MK]at h4;rw[<-h3]at h4;have P2:s'.n=((jh (jg L Bg) lo).R U).length:=by rw[h3];exact hn
  refine dH (w':=w') (v:=s'.v) ?_ (hK _ (j.putL vw.nid [s']) _ Tx (ov (Ext.of_grown h5) (RowOk.mk_own (r:=⟨[ZA kd],et,jh (jg L Bg) lo,ZB,CR [ZA kd]⟩) (by cases kd<;>rfl) P2 Ix.rows (by simp) h4) rfl rfl));simp only[execOp,Ad,resolve,hc,B3,Dx,ZI,Sem.run_pure,Result.andThen_ok,invoke,builtin];simp only[h2,Result.andThen_ok]
 .exact h1.elim
def oz(kd:IntKind)(l:E):∀(n i:Nat),(mS kd l i n).all C.solid=ZB
 |0,_=>rfl
 |n+1,i=>by simp[mS,C.solid,oz kd l n (i+1)]
def su{kd:IntKind}{l:E}{j:J}(hr:RowsIn [ZA kd] (l.R U)):∀(n i:Nat),i+n=(l.R U).length->Af U j (mS kd l i n)=ZA (flat [ZA kd] ((l.R U).drop i))
 |0,i,h=>by rw[List.drop_eq_nil_of_le Fn];rfl
 |n+1,i,h=>by
   have As:i<(l.R U).length:=Fn;have ih:=su (j:=j) hr n (i+1) Fn;have hx:=gQ (hr.row _ (List.getElem_mem As));obtain⟨x,F9⟩:∃x,(l.R U)[i]=[x]:=by
    match hq:(l.R U)[i],hx with
    |[x],_=>exact⟨x,rfl⟩
   rw[List.drop_eq_getElem_cons As,cN,F9];have hg:gt (l.R U) (i:Int) 0=x:=by unfold gt;rw[show(l.R U).getD ((i:Int)).toNat []=[x]from by rw[bZ,cY,AH As,F9];rfl];rfl
   simp only[mS,Af,C.den,E.I,ih,hg];rfl
def yu(hT:∀t i,(t,i)∈cx.ty->TIok P t i)(Ad:o.op=.call c)(hc:c.callee=.builtin .copy){id:Nat}{t':Nat}(hl:Ew vw.ev c.args.toList=ZA [.one (.aw b off n 1 (.p 0) (.p n) (.p n)),.one (.sl id)])(C8:c.argTypes.toList=[t,t'])(hi:ap t cx.ty=ZA i)(ha:i.sle=ZA et)(BA:ap et cx.ty=ZA ie)(MK:ie.size=1)(hr:vw.sw id=ZA r)(Cq:r.ks=[ZA kd])(P1:0<n)(h:(AK (Gq (dG r.l) (.p n)) (fun ok kw=>if ok then k {val:=.one (.int .i64 (.p n)),wr:=eN b off (mS kd r.l 0 n),rr:=[id]} kw else .stuck 225) kw).holds sp G U I)(hg:Good sp cx.sm U kw):Sound P sp U G I base cx vw o k kw:=by
 obtain⟨Cc,h1,g1,_,l1⟩:=aO _ _ _ h hg;rw[qq,dF]at h1;split at h1
 .rename_i hb;have hb:(r.l.R U).length=n:=by
   have:=eq_of_beq hb;simp only[E.I]at this;omega
  refine⟨_,Cc,h1,g1,l1,fun j a w hbs Au By Ca BQ Ef K Q hK=> ?_⟩;obtain⟨s,hs,Aj⟩:=BQ.sl id (by simp) r hr;obtain⟨u1,u2,B3,Kk,Iy⟩:=QI (j:=j) (a:=a) hl (fun x hx=>Au x Xp);simp only[V.den,C.den,Ay]at Kk;obtain⟨kk,hk,e1⟩:=Kk;have e2:=tM hs Iy;subst e1 e2;have hu:=(hT _ _ (af hi)).sle et ha;obtain⟨CL,z,C7,Cy,_,_,_,_⟩:=(hT _ _ (af BA)).info;have Dx:c.argTypes = #[t,t']:=Xu;have RL:s.n=n:=by rw[Aj.n,hb]
  have DD:=Aj.rd;have AS:=Aj.rows;rw[Cq]at DD AS;obtain⟨ad,Ot⟩:∃ad,s.a=ZA ad:=by
   cases hsa:s.a with
   |some ad=>exact⟨ad,rfl⟩
   |none=>have:=(DD.2.2.2.1 hsa).1;omega
  have Rc:(flat [ZA kd] (r.l.R U)).length=n:=by rw[DD.1,RL];simp
  have KR:Af U j (mS kd r.l 0 n)=ZA (flat [ZA kd] (r.l.R U)):=by have:=su (j:=j) AS n 0 Fn;rwa [List.drop_zero]at this
  have HQ:=run_loadCells_list (P:=P) w ad (flat [ZA kd] (r.l.R U)) (fun m u hm=>DD.2.2.2.2 ad Ot m u hm);rw[Rc]at HQ;obtain⟨w',RS,Kr⟩:=dK (P:=P) hk ⟨kk,off,ZE⟩ (mS kd r.l 0 n) off 0 _ w (fun m=>by rw[bP,bB]) KR (oz kd r.l n 0) Ca;refine dH (w':=w') (v:=.int .i64 (n:Int)) ?_ (hK _ j w' (by simp[V.den,C.den,E.I]) ⟨rfl,w,.refl w,RS⟩);obtain⟨sa,sn,sc,sz⟩:=s;simp only at Ot RL;subst Ot RL;have Bc:CL.size=1:=by rw[Cy,MK]
  have Ix:((⟨ZA ⟨kk,off,ZE⟩,sn,sn,[]⟩:SV).cut 1 ((E.p 0).I U).toNat ((E.p (sn:Int)).I U).toNat ((E.p (sn:Int)).I U).toNat).v=.slice (ZA ⟨kk,off,ZE⟩) sn sn:=by have e5:((E.p 0).I U).toNat=0:=rfl;have e6:((E.p (sn:Int)).I U).toNat=sn:=cY sn;rw[e5,e6];simp only[SV.cut,SV.v,Nat.sub_zero];rw[aa (by omega:¬sn=0)];simp only[YR,Nat.zero_mul,bB,ZR]
  rw[Ix]at B3;simp only[execOp,Ad,resolve,hc,B3,Dx,ZI,Sem.run_pure,Result.andThen_ok,invoke,builtin,SV.v];simp[Builtin.copy_,run_underlying hu,Builtin.lenOf,Builtin.firstCells,sizeOf,typeInfo,C7,Bc,HQ,Kr,goInt]
 .exact h1.elim
def opY(cx:Cx)(vw:Vw)(op:Op)(kw:Kw)(k:Eff->Kw->Tr):Option Tr:=match op with
 |.buildSlice t n ps=>match KI vw.ev ps.toList,ap t cx.ty with
   |some A5,ZA i=>match i.sle with
     |some et=>match ap et cx.ty with
       |some ie=>if ZJ n 1&&ZJ ie.size 3 then(match rq (fun m=>ZA (m*ie.size,ie.size)) ((ZM 1 ie.zero).flatten) A5 with
         |some [.int .i64 e1,.sl id,.int .u64 e2]=>match vw.sw id with
           |some r=>if r.own&&(di r.ks [ZA .u64]&&(LU kw.vk e1 e2 r.l).rok kw.vk Dn)then
            ZA (AK (Bl (.p 5) (dG r.l)) (fun b An=>if b then .stuck 220 else k {val:=.one (.sl vw.nid),rr:=[id],re:=.frz id {r with own:=ZC} ⟨Dn,et,.lq .ln (LU kw.vk e1 e2 r.l),ZB,.ev⟩} An) kw)else ZE
           |none=>ZE
         |_=>ZE)else ZE
       |none=>ZE
     |none=>ZE
   |_,_=>ZE
 |.slice t x lo hi mx=>match vw.ev x,ap t cx.ty,mx with
   |some (.one (.ptr b off)),ZA i,ZE=>match i.arr with
     |some (n,et)=>match ap et cx.ty,JS vw lo (.p 0),JS vw hi (.p n)with
       |some ie,ZA a,ZA c=>if lo.isSome||hi.isSome then ZA (AK (JE n a c) (fun ok kw=>if ok then k {val:=.one (.aw b off n ie.size a c (.p n))} kw else .panic) kw)else ZE
       |_,_,_=>ZE
     |none=>ZE
   |_,_,_=>ZE
 |.call c=>match c.callee with
   |.builtin .len=>match Ew vw.ev c.args.toList,c.argTypes.toList with
     |some [.one (.sl id)],[t]=>match ap t cx.ty,vw.evw id with
       |some i,ZA r=>if i.sle.isSome then ZA (k {val:=.one (.int .i64 (IY kw.vk r.l)),rr:=[id]} kw)else ZE
       |_,_=>ZE
     |_,_=>ZE
   |.builtin .append=>match Ew vw.ev c.args.toList,c.argTypes.toList with
     |some [.one (.sl old),.one (.sl id)],[t,t']=>match ap t cx.ty,vw.evw id,vw.evw old with
       |some i,ZA r,ZA q=>match i.sle with
         |some et=>match ap et cx.ty with
           |some ie=>if ZJ t t'&&(ZJ ie.size 3&&(decide (ie.bytes<=65536)&&(r.own&&(q.own&&ZJ q.ty et))))then
            ZA (AK (im (Bl (dG q.l) (.p EP)) (Bl (dG r.l) (.p EP))) (fun b kw=>if b then k {val:=.one (.sl vw.nid),rr:=[old,id],re:=.app old ⟨Dn,et,DR q.l r.l,ZB,.ev⟩} kw else .panic) kw)else ZE
           |none=>ZE
         |none=>ZE
       |_,_,_=>ZE
     |some [.one .nsl,.one (.aw b off n sz lo hi mx)],[t,t']=>match ap t cx.ty with
       |some i=>match i.sle with
         |some et=>match ap et cx.ty with
           |some ie=>match ie.ik,vw.row b off n with
             |some kd,ZA cs=>match Kz kd .ln cs with
               |some L=>if ZJ t t'&&(ZJ ie.size 1&&(ZJ sz 1&&(decide (ie.bytes<=65536)&&(decide (0<n)&&(decide (n<=65536)&&L.lok kw.vk [ZA kd])))))then
                ZA (AK (im (JE n lo hi) (im (eD (Bl mx hi)) (eD (Bl (.p n) mx)))) (fun ok kw=>if ok then k {val:=.one (.sl vw.nid),rd:=eb b off n,re:=.mk [⟨[ZA kd],et,jh (jg L hi) lo,ZB,CR [ZA kd]⟩]} kw else .stuck 224) kw)else ZE
               |none=>ZE
             |_,_=>ZE
           |none=>ZE
         |none=>ZE
       |none=>ZE
     |_,_=>ZE
   |.builtin .copy=>match Ew vw.ev c.args.toList,c.argTypes.toList with
     |some [.one (.aw b off n sz (.p l0) (.p l1) (.p l2)),.one (.sl id)],[t,_]=>match ap t cx.ty with
       |some i=>match i.sle with
         |some et=>match ap et cx.ty with
           |some ie=>match vw.sw id with
             |some r=>match r.ks with
               |[ZA kd]=>if ZJ ie.size 1&&(ZJ sz 1&&(decide (0<n)&&(fH l0 0&&(fH l1 n&&fH l2 n))))then
                ZA (AK (Gq (dG r.l) (.p n)) (fun ok kw=>if ok then k {val:=.one (.int .i64 (.p n)),wr:=eN b off (mS kd r.l 0 n),rr:=[id]} kw else .stuck 225) kw)else ZE
               |_=>ZE
             |none=>ZE
           |none=>ZE
         |none=>ZE
       |none=>ZE
     |_,_=>ZE
   |_=>ZE
 |_=>ZE
def aso(hT:∀t i,(t,i)∈cx.ty->TIok P t i)(ht:opY cx vw o.op kw k=ZA tr)(h:tr.holds sp G U I)(hg:Good sp cx.sm U kw):Sound P sp U G I base cx vw o k kw:=by
 cases Ad:o.op<;>rw[Ad]at ht<;>simp only[opY]at ht
 case buildSlice t n ps=>
  split at ht
  .rename_i A5 i Gy hi;split at ht
   .rename_i et ha;split at ht
    .rename_i ie BA;split at ht
     .rename_i hn;rw[ne]at hn;have UV:=Ak hn.1;subst UV;split at ht
      .rename_i e1 id e2 Eg;split at ht
       .rename_i r hr;split at ht
        next hq=>simp only[ne]at hq;cases ht;exact aff hT Ad Gy hi ha BA Eg (Ak hn.2) hr hq.1 (cO hq.2.1) hq.2.2 h hg
        .exact Xr
       .exact Xr
      .exact Xr
     .exact Xr
    .exact Xr
   .exact Xr
  .exact Xr
 case slice t x lo Bg mx=>
  split at ht
  .rename_i b off i hx hi;split at ht
   .rename_i n et ha;split at ht
    .rename_i ie a c BA Ma L9;split at ht
     .cases ht;exact acM hT Ad hx hi ha BA Ma L9 h hg
     .exact Xr
    .exact Xr
   .exact Xr
  .exact Xr
 case call c=>
  split at ht
  .rename_i hc;split at ht
   .rename_i id t hl C8;split at ht
    .rename_i i r hi hr;split at ht
     next Gk=>cases ht;exact afg hT Ad hc hl C8 hi Gk hr h hg
     .exact Xr
    .exact Xr
   .exact Xr
  .rename_i hc;split at ht
   .rename_i old id t t' hl C8;split at ht
    .rename_i i r q hi hr hq;split at ht
     .rename_i et ha;split at ht
      .rename_i ie BA;split at ht
       next hp=>simp only[ne,aE]at hp;have e1:=Ak hp.1;subst e1;cases ht;exact vF hT Ad hc hl C8 hi ha BA hr hq (Ak hp.2.1) hp.2.2.1 hp.2.2.2.1 hp.2.2.2.2.1 (Ak hp.2.2.2.2.2) h hg
       .exact Xr
      .exact Xr
     .exact Xr
    .exact Xr
   .rename_i b off n sz lo Bg mx t t' hl C8;split at ht
    .rename_i i hi;split at ht
     .rename_i et ha;split at ht
      .rename_i ie BA;split at ht
       .rename_i kd cs Ly AW;split at ht
        .rename_i L hL;split at ht
         next hp=>simp only[ne,aE]at hp;obtain⟨p1,p2,p3,p4,p5,p6,p7⟩:=hp;have p1:=Ak p1;have p3:=Ak p3;subst p1 p3;cases ht;exact acP hT Ad hc hl C8 hi ha BA AW hL p7 (Ak p2) p4 p5 p6 h hg
         .exact Xr
        .exact Xr
       .exact Xr
      .exact Xr
     .exact Xr
    .exact Xr
   .exact Xr
  .rename_i hc;split at ht
   .rename_i b off n sz l0 l1 l2 id t t' hl C8;split at ht
    .rename_i i hi;split at ht
     .rename_i et ha;split at ht
      .rename_i ie BA;split at ht
       .rename_i r hr;split at ht
        .rename_i kd Cq;split at ht
         next hp=>simp only[ne,aE]at hp;obtain⟨p1,p2,p3,p4,p5,p6⟩:=hp;have p2:=Ak p2;have p4:=cX p4;have p5:=cX p5;have p6:=cX p6;subst p2 p4 p5 p6;cases ht;exact yu hT Ad hc hl C8 hi ha BA (Ak p1) hr Cq p3 h hg
         .exact Xr
        .exact Xr
       .exact Xr
      .exact Xr
     .exact Xr
    .exact Xr
   .exact Xr
  .exact Xr
 all_goals cases ht
def O6(cx:Cx)(vw:Vw)(op:Op)(kw:Kw)(k:Eff->Kw->Tr):Tr:=match opY cx vw op kw k with
 |some t=>t
 |none=>match opX cx vw op kw k with
   |some t=>t
   |none=>Vi cx vw op kw k
def apQ(hT:∀t i,(t,i)∈cx.ty->TIok P t i)(hS:∀s∈cx.sm,SmOk P sp s)(AR:∀s∈cx.sm,∀s'∈cx.sm,s.key=s'.key->s=s')(h:(O6 cx vw o.op kw k).holds sp G U I)(hg:Good sp cx.sm U kw):Sound P sp U G I base cx vw o k kw:=by
 unfold O6 at h;split at h
 next t ht=>exact aso hT ht h hg
 .split at h
  next t ht=>exact asp hT ht h hg
  .exact asr hT hS AR h hg
end
def aoY(cx:Cx):Option (Nat×List CE×Nat):=match ap 999995 cx.hints with
 |some [.tmpS t ks st]=>ZA (t,ks,st)
 |_=>ZE
def zk(cx:Cx)(t:Nat):Bool:=match ap 999994 cx.hints with
 |some [.only l]=>l.any (ZJ t)
 |_=>ZC
def ah1(cx:Cx)(t:Nat):Bool:=match ap 999993 cx.hints with
 |some [.only l]=>l.any (ZJ t)
 |_=>ZC
def C.isZk(kd:IntKind):C->Bool
 |.int k (.p z)=>bJ k kd&&fH z 0
 |_=>ZC
def adQ{U:Env}{j:J}{kd:IntKind}:∀{cs:List C} {vs:List Value},cs.all (C.isZk kd)=ZB->Af U j cs=ZA vs->vs=ZM cs.length (.int kd 0)
 |[],vs,_,h=>by cases h;rfl
 |c::cs,vs,hc,h=>by
   rw[YX,ne]at hc;have h1:=hc.1;unfold C.isZk at h1;split at h1
   .rename_i k z;rw[ne]at h1;have e1:=ax h1.1;have e2:=cX h1.2;subst e1 e2;simp only[Af,C.den,E.I]at h;cases hl:Af U j cs with
    |none=>rw[hl]at h;cases h
    |some us=>rw[hl]at h;cases h;rw[adQ hc.2 hl];rfl
   .cases h1
def sP:List CE->E
 |[]=>.nil
 |none::ks=>.j (.tt ZC) (sP ks)
 |some _::ks=>.cons (.p 0) (sP ks)
def xL(U:Env):∀ks:List CE,(sP ks).L U=ZM ks.length 0
 |[]=>rfl
 |none::ks=>by simp only[sP,E.L,xL U ks,E.B,YQ,List.replicate_succ];rfl
 |some _::ks=>by simp only[sP,E.L,xL U ks,E.I,YQ,List.replicate_succ]
def WF:∀ks:List CE,az ks (ZM ks.length 0)=ZB
 |[]=>rfl
 |none::ks=>by simp[List.replicate_succ,az,Dp,WF ks]
 |some k::ks=>by simp[List.replicate_succ,az,Dp,kS,WF ks]
def C.isNilp:C->Bool
 |.np=>ZB
 |_=>ZC
def wV{U:Env}{j:J}:∀{cs:List C} {vs:List Value},cs.all C.isNilp=ZB->Af U j cs=ZA vs->vs=(ZM cs.length (ZE:Option Addr)).map Value.pointer
 |[],vs,_,h=>by cases h;rfl
 |c::cs,vs,hc,h=>by
   rw[YX,ne]at hc;cases c<;>first|cases hc.1|skip
   simp only[Af,C.den]at h;cases hl:Af U j cs with
   |none=>rw[hl]at h;cases h
   |some us=>rw[hl]at h;cases h;rw[wV hc.2 hl];rfl
def JG(l e:E):Nat->List CE->E
 |_,[]=>.nil
 |c,ZE::ks=>.j (qp l e c) (JG l e (c+1) ks)
 |c,ZA _::ks=>.cons (rk l e c) (JG l e (c+1) ks)
def anh{U:Env}{l e:E}{row:List Int}(h:(l.R U)[(e.I U).toNat]? =ZA row):∀(ks:List CE) (c:Nat),az ks (row.drop c)=ZB->(JG l e c ks).L U=row.drop c
 |[],c,hr=>by
   cases hd:row.drop c with
   |nil=>rfl
   |cons x xs=>rw[hd]at hr;cases hr
 |k::ks,c,hr=>by
   cases hd:row.drop c with
   |nil=>rw[hd]at hr;cases hr
   |cons x xs=>
     have hx:row.getD c 0=x:=by have:=congrArg List.head? hd;rw[List.head?_drop]at this;rw[bZ,this];rfl
     have MX:row.drop (c+1)=xs:=by rw[<-List.tail_drop,hd];rfl
     rw[hd]at hr;simp only[az,ne]at hr;have hg:gt (l.R U) (e.I U) c=x:=by unfold gt;rw[bZ (l:=l.R U),h];exact hx
     have ih:=anh h ks (c+1) (by rw[MX];exact hr.2);rw[MX]at ih;cases k with
     |some kd=>simp only[JG,E.L,yX,hg,ih]
     |none=>have h0:=hr.1;simp only[Dp,fy,cQ]at h0;simp only[JG,E.L,uq,hg,ih];rcases h0 with rfl|rfl<;>rfl
def Ez(l e:E)(c:Nat)(ks:List CE):E:=match(mK l e).bind (PR c)with
 |some t=>t
 |none=>JG l e c ks
def zA{U:Env}:∀{c:Nat} {row t:E},PR c row=ZA t->t.L U=(row.L U).drop c
 |0,row,t,h=>by cases h;rfl
 |c+1,.cons _ u,t,h=>zA (c:=c) (row:=u) h
 |c+1,.j _ u,t,h=>zA (c:=c) (row:=u) h
def ahw{r:E}(h:mK l e=ZA r):(l.R U)[(e.I U).toNat]? =ZA (r.L U):=by
 unfold mK at h;split at h
 next i=>exact wG U l i r h
 .exact Xo
def ang{row:List Int}(h:(l.R U)[(e.I U).toNat]? =ZA row)(ks:List CE)(c:Nat)(hr:az ks (row.drop c)=ZB):(Ez l e c ks).L U=row.drop c:=by
 unfold Ez;split
 next t ht=>rw[de]at ht;obtain⟨r,h1,h2⟩:=ht;have h3:=ahw (U:=U) h1;rw[h]at h3;cases h3;exact zA h2
 .exact anh h ks c hr
def nG:∀{ks:List CE} {row:List Int} (c:Nat),az ks row=ZB->az (ks.drop c) (row.drop c)=ZB
 |ks,row,0,h=>h
 |[],[],c+1,_=>rfl
 |k::ks,x::xs,c+1,h=>by simp only[az,ne]at h;exact nG c h.2
def pX:∀{ks:List CE} {row:List Int} (c m:Nat),az ks row=ZB->(Bm ks row)[c+m]? =(Bm (ks.drop c) (row.drop c))[m]?
 |ks,row,0,m,h=>by rw[bP];rfl
 |[],[],c+1,m,_=>by simp[Bm]
 |k::ks,x::xs,c+1,m,h=>by simp only[az,ne]at h;rw[show c+1+m=(c+m)+1 by omega];simpa[Bm]using pX c m h.2
def ol:List CE->E->List C->Option E
 |_,t,[]=>ZA t
 |some k::ks,.cons _ t,.int k' x::cs=>if bJ k' k then(ol ks t cs).map (.cons x ·)else ZE
 |none::ks,.j _ t,.bool x::cs=>(ol ks t cs).map (.j x ·)
 |_,_,_=>ZE
def yN:Nat->List CE->E->List C->Option E
 |0,ks,t,cs=>ol ks t cs
 |off+1,_::ks,.cons a t,cs=>(yN off ks t cs).map (.cons a ·)
 |off+1,_::ks,.j a t,cs=>(yN off ks t cs).map (.j a ·)
 |_,_,_,_=>ZE
def amh(R:List Int)(c:Nat)(x:Int):st [R] 0 c x=[R.set c x]:=rfl
def afx(P R:List Int)(y x:Int):(P++y::R).set P.length x=(P++[x])++R:=by simp
def pY{U:Env}{vk:List VK}:∀(cs:List C) (ks:List CE) (t t' l:E) (Q:List Int),cs.all (C.rng vk)=ZB->ol ks t cs=ZA t'->l.R U=[Q++t.L U]->∃l',gg vk l (.p 0) Q.length ks cs=ZA l'/\l'.R U=[Q++t'.L U]
 |[],ks,t,t',l,Q,_,h,hl=>by
   have e:t'=t:=by
    unfold ol at h;cases ks with
    |nil=>exact(ZN h).symm
    |cons k ks=>cases k<;>exact(ZN h).symm
   subst e;refine⟨l,?_,hl⟩;unfold gg;cases ks with
   |nil=>rfl
   |cons k ks=>cases k<;>rfl
 |c::cs,ks,t,t',l,Q,hr,h,hl=>by
   simp only[YX,ne]at hr;cases ks with
   |nil=>simp[ol]at h
   |cons k ks=>
     cases k with
     |some kd=>
       cases t<;>cases c<;>simp only[ol]at h<;>first|cases h|skip
       rename_i a t k' x;split at h
       .rename_i hk;rw[Ay]at h;obtain⟨t1,h1,rfl⟩:=h;obtain⟨l',h2,h3⟩:=pY (U:=U) cs ks t t1 (.lset l (.p 0) Q.length x) (Q++[x.I U]) hr.2 h1 (by simp only[E.R,E.L,E.I,hl,amh,afx]);refine⟨l',?_,by rw[h3];simp[E.L]⟩;have D3:(bJ k' kd&&x.rng vk kd)=ZB:=by
         have h9:x.rng vk k'=ZB:=hr.1;rw[ax hk]at h9;rw[hk,h9];rfl
        simp only[gg,D3,bm];rw[<-h2];simp
       .exact Xo
     |none=>
       cases t<;>cases c<;>simp only[ol]at h<;>first|cases h|skip
       rename_i a t x;rw[Ay]at h;obtain⟨t1,h1,rfl⟩:=h;obtain⟨l',h2,h3⟩:=pY (U:=U) cs ks t t1 (.lsetb l (.p 0) Q.length x) (Q++[AD (x.B U)]) hr.2 h1 (by simp only[E.R,E.L,E.I,hl,amh,afx]);refine⟨l',?_,by rw[h3];simp[E.L]⟩;simp only[gg];rw[<-h2];simp
def tV{U:Env}{vk:List VK}:∀(off:Nat) (cs:List C) (ks:List CE) (t t' l:E) (Q:List Int),cs.all (C.rng vk)=ZB->yN off ks t cs=ZA t'->l.R U=[Q++t.L U]->∃l',gg vk l (.p 0) (Q.length+off) (ks.drop off) cs=ZA l'/\l'.R U=[Q++t'.L U]
 |0,cs,ks,t,t',l,Q,hr,h,hl=>pY cs ks t t' l Q hr (by cases ks<;>exact h) hl
 |off+1,cs,ks,t,t',l,Q,hr,h,hl=>by
   cases ks with
   |nil=>simp[yN]at h
   |cons k ks=>
     cases t<;>simp only[yN]at h<;>first|cases h|skip
     next a t=>rw[Ay]at h;obtain⟨t1,h1,rfl⟩:=h;obtain⟨l',h2,h3⟩:=tV (U:=U) off cs ks t t1 l (Q++[a.I U]) hr h1 (by rw[hl];simp[E.L]);refine⟨l',?_,by rw[h3];simp[E.L]⟩;rw[<-h2];simp only[List.drop_succ_cons,eo,YQ,List.length_nil];congr 1;omega
     next a t=>rw[Ay]at h;obtain⟨t1,h1,rfl⟩:=h;obtain⟨l',h2,h3⟩:=tV (U:=U) off cs ks t t1 l (Q++[AD (a.B U)]) hr h1 (by rw[hl];simp[E.L]);refine⟨l',?_,by rw[h3];simp[E.L]⟩;rw[<-h2];simp only[List.drop_succ_cons,eo,YQ,List.length_nil];congr 1;omega
def Gu(l e:E):E:=match l with
 |.lput _ e' row=>if e'.same e then .lq .ln row else l
 |l=>l
def Hl(l e:E):E:=match l with
 |.lput _ e' _=>if e'.same e then .p 0 else e
 |_=>e
def ar3{row:List Int}(h:(l.R U)[(e.I U).toNat]? =ZA row):((Gu l e).R U)[((Hl l e).I U).toNat]? =ZA row:=by
 cases l<;>first|exact h|skip
 rename_i a e' r;simp only[Gu,Hl];split
 next hs=>have he:=E.same_eq hs;subst he;simp only[E.R]at h;have As:=(cZ.1 h).1;rw[List.length_set]at As;rw[List.getElem?_set_self As]at h;simpa[E.R,E.I]using h
 .exact h
def Vw.tabw(vw:Vw)(id:Nat):Option RowOb:=match vw.rw id with
 |some r=>match r.kd with
   |.tab=>ZA r
   |_=>ZE
 |none=>ZE
def Vw.tabw_some{vw:Vw}{id:Nat}(h:vw.tabw id=ZA r):vw.rw id=ZA r/\r.kd=.tab:=by
 unfold Vw.tabw at h;split at h
 .rename_i q hq;split at h
  next hk=>cases h;exact⟨hq,hk⟩
  .exact Xo
 .exact Xo
section
variable {P:Program}{sp:Spec}{U:Env}{G:Env->E->Prop}{I:Nat->List Dt->Prop}{base:Nat}{cx:Cx}{vw:Vw}{o:Oper}{k:Eff->Kw->Tr}
def RrOk.tb{rr:List Nat}(h:RrOk U base j w vw.rw rr)(id:Nat)(IA:id∈rr)(r:RowOb)(hr:vw.tabw id=ZA r):∃s,j.s id=ZA s/\HdOk U base w s r/\TbAt U j w s r/\∀k o,j.g.z k=ZA o->w.heap[k]? =ZA o:=by obtain⟨h1,h2⟩:=Vw.tabw_some hr;obtain⟨s,h3,h4,_,_,h5⟩:=h id IA r h1;exact⟨s,h3,h4.2.1 (by rw[h2];rfl),(h5 h2).1,(h5 h2).2⟩
def ag8{cells:Array Value}{r:E}(h1:cells.toList=Bm ks (r.L U))(h2:az ks (r.L U)=ZB)(h3:0<ks.length):RowOk U w.heap.size (w.alloc (.cells cells t)) ⟨ZA ⟨w.heap.size,0,ZE⟩,1,1,[]⟩ ⟨ks,t,.lq .ln r,ZB,.sl⟩:=by
 have e:(E.lq .ln r).R U=[r.L U]:=by simp[E.R]
 have f:flat ks [r.L U]=cells.toList:=by rw[h1];simp[flat]
 have hs:cells.size=1*ks.length:=by have:=congrArg List.length h1;rw[du h2]at this;simpa using this
 have own:=World.ownsRow_lit (base:=w.heap.size) (e:=t) (size:=ks.length) w cells 1 (ZK _) (by simp[maxLen]) hs;refine RowOk.mk_own rfl (by rw[e];rfl) ⟨fun q hq=> ?_,by rw[e];simp[maxLen]⟩ h3 ?_
 .rw[e,dA]at hq;rw[hq];exact h2
 .rw[e,f];exact own
def T4{a:Nat}:(V.one (.ep nid n (.p 0) 0)).den U (j.putL nid [⟨ZA ⟨g,0,ZE⟩,a,b,[]⟩])=ZA (.pointer (ZA ⟨g,0,ZE⟩)):=by simp[V.den,C.den,J.putL,SV.elem,E.I,bB]
def vJ(hT:∀t i,(t,i)∈cx.ty->TIok P t i)(Ad:o.op=.alloc t)(hi:ap t cx.ty=ZA i){r:E}(hr:Gt kw.vk ks i.zero=ZA r)(Ei:0<ks.length)(h:(k {val:=.one (.ep vw.nid ks.length (.p 0) 0),re:=.mk [⟨ks,t,.lq .ln r,ZB,.sl⟩]} kw).holds sp G U I)(hg:Good sp cx.sm U kw):Sound P sp U G I base cx vw o k kw:=by
 refine⟨_,kw,h,hg,.refl _,fun j a w hb Au By Ca BQ Ef K Q hK=> ?_⟩;obtain⟨z,hz,hd⟩:=(hT _ _ (af hi)).zero;obtain⟨h1,h2⟩:=nH hg.vk hr (hd U j);refine dH (w':=w.alloc (.cells z.cells t)) (v:=.pointer (ZA ⟨w.heap.size,0,ZE⟩)) ?_ (hK _ (j.putL vw.nid [⟨ZA ⟨w.heap.size,0,ZE⟩,1,1,[]⟩]) _ T4 (ov (Ext.of_grown (World.grownBy_alloc w _ ZE)) (ag8 h1 h2 Ei) rfl rfl));simp[execOp,Ad,Instr.alloc,ZI,hz,newVar,newRow,newObj,Sem.run]
def acN(Ad:o.op=.box t x){v:V}(hv:vw.ev x=ZA v)(hf:v.flat=ZB){r:E}(hr:Gt kw.vk ks v.cells=ZA r)(Ei:0<ks.length)(h:(k {val:=.one (.ep vw.nid ks.length (.p 0) 0),re:=.mk [⟨ks,t,.lq .ln r,ZB,.sl⟩]} kw).holds sp G U I)(hg:Good sp cx.sm U kw):Sound P sp U G I base cx vw o k kw:=by
 refine⟨_,kw,h,hg,.refl _,fun j a w hb Au By Ca BQ Ef K Q hK=> ?_⟩;have hd:=V.cells_ok (Au x Or v hv) hf;obtain⟨h1,h2⟩:=nH hg.vk hr hd;refine dH (w':=w.alloc (.cells (a.eval x).cells t)) (v:=.pointer (ZA ⟨w.heap.size,0,ZE⟩)) ?_ (hK _ (j.putL vw.nid [⟨ZA ⟨w.heap.size,0,ZE⟩,1,1,[]⟩]) _ T4 (ov (Ext.of_grown (World.grownBy_alloc w _ ZE)) (ag8 h1 h2 Ei) rfl rfl));simp[execOp,Ad,Instr.box,ZI,newVar,newRow,newObj,Sem.run]
def vI(hT:∀t i,(t,i)∈cx.ty->TIok P t i)(Ad:o.op=.alloc t)(hi:ap t cx.ty=ZA i)(ks:List CE)(st:Nat)(hn:i.zero.all C.isNilp=ZB)(hl:i.zero.length<=65536)(h:(k {val:=.one (.ep vw.nid 1 (.p 0) 0),re:=.mk [⟨ZE::ks,st,.lrep (.p i.zero.length) (sP (ZE::ks)),ZB,.tab⟩]} kw).holds sp G U I)(hg:Good sp cx.sm U kw):Sound P sp U G I base cx vw o k kw:=by
 refine⟨_,kw,h,hg,.refl _,fun j a w hb Au By Ca BQ Ef K Q hK=> ?_⟩;obtain⟨z,hz,hd⟩:=(hT _ _ (af hi)).zero;have e:=wV hn (hd U j);have CS:z.cells=((ZM i.zero.length (ZE:Option Addr)).map Value.pointer).toArray:=by rw[<-e,Array.toArray_toList]
 have hR:(E.lrep (.p i.zero.length) (sP (ZE::ks))).R U=ZM i.zero.length (ZM (ks.length+1) 0):=by simp only[E.R,E.I,xL,cY,YQ]
 have hhp:=heap_alloc_new w (.cells z.cells t);refine dH (w':=w.alloc (.cells z.cells t)) (v:=.pointer (ZA ⟨w.heap.size,0,ZE⟩)) ?_ (hK _ (j.putL vw.nid [⟨ZA ⟨w.heap.size,0,ZE⟩,1,1,[]⟩]) _ T4 (ov (Ext.of_grown (World.grownBy_alloc w _ ZE)) (HdOk.row ⟨rfl,⟨fun q hq=> ?_,?_⟩,rfl,w.heap.size,_,rfl,ZK _,hhp,?_⟩ rfl) rfl rfl rfl (fun _ jj=>⟨w.heap.size,ZM i.zero.length ZE,t,rfl,by rw[<-CS];exact hhp,by rw[hR];simp,fun m row p hm hp=> ?_⟩)))
 .exact XJ
 .rw[hR]at hq;rw[(List.mem_replicate.1 hq).2];exact WF (ZE::ks)
 .rw[hR,List.length_replicate];simp only[maxLen];omega
 .exact⟨ZM i.zero.length ZE,t,by rw[<-CS]⟩
 .have P3:=fI hp;rw[(List.mem_replicate.1 P3).2];have hm:((E.lrep (.p i.zero.length) (sP (ZE::ks))).R U)[m]? =ZA row:=hm;rw[hR]at hm;rw[(List.mem_replicate.1 (fI hm)).2];simp[PtIs,List.replicate_succ]
def vK(hT:∀t i,(t,i)∈cx.ty->TIok P t i)(Ad:o.op=.alloc t)(hi:ap t cx.ty=ZA i)(hn:i.zero.all (C.isZk kd)=ZB)(hl:i.zero.length<=65536)(h:(k {val:=.one (.ep vw.nid 1 (.p 0) 0),re:=.mk [⟨[ZA kd],t,.lrep (.p i.zero.length) (.cons (.p 0) .nil),ZB,.sl⟩]} kw).holds sp G U I)(hg:Good sp cx.sm U kw):Sound P sp U G I base cx vw o k kw:=by
 refine⟨_,kw,h,hg,.refl _,fun j a w hb Au By Ca BQ Ef K Q hK=> ?_⟩;obtain⟨z,hz,hd⟩:=(hT _ _ (af hi)).zero;have e:=adQ hn (hd U j);have hR:(E.lrep (.p i.zero.length) (.cons (.p 0) .nil)).R U=ZM i.zero.length [0]:=by simp only[E.R,E.I,E.L,cY]
 have E0:flat [ZA kd] (ZM i.zero.length [0])=z.cells.toList:=by
  rw[e];generalize i.zero.length=m
  induction m with
  |zero=>rfl
  |succ m ih=>rw[List.replicate_succ,cN,ih,List.replicate_succ];rfl
 have BR:z.cells.size=i.zero.length*1:=by have:=congrArg List.length e;simpa using this
 have own:=World.ownsRow_lit (base:=w.heap.size) (e:=t) (size:=1) w z.cells i.zero.length (ZK _) Ye BR;refine dH (w':=w.alloc (.cells z.cells t)) (v:=.pointer (ZA ⟨w.heap.size,0,ZE⟩)) ?_ (hK _ (j.putL vw.nid [⟨ZA ⟨w.heap.size,0,ZE⟩,i.zero.length,i.zero.length,[]⟩]) _ T4 (ov (Ext.of_grown (World.grownBy_alloc w _ ZE)) (RowOk.mk_own rfl (by rw[hR];simp) ⟨fun q hq=> ?_,?_⟩ (by simp) (by rw[hR,E0];exact own)) rfl rfl))
 .exact XJ
 .rw[hR]at hq;rw[(List.mem_replicate.1 hq).2];simp[az,Dp,kS]
 .rw[hR,List.length_replicate];simp only[maxLen];omega
def vy(hT:∀t i,(t,i)∈cx.ty->TIok P t i)(Ad:o.op=.indexAddr t x y){id:Nat}(hx:vw.ev x=ZA (.one (.ep id 1 (.p 0) 0)))(hy:vw.ev y=ZA (.one (.int k0 e)))(hi:ap t cx.ty=ZA i)(ha:i.arr=ZA (n,et))(BA:ap et cx.ty=ZA ie)(MK:ie.size=1)(h:(AK (Ks e n) (fun ok kw=>if ok then k {val:=.one (.ep id 1 e 0)} kw else .panic) kw).holds sp G U I)(hg:Good sp cx.sm U kw):Sound P sp U G I base cx vw o k kw:=by
 obtain⟨Cc,g1,q1,_,l1⟩:=aO _ _ _ h hg;rw[QC]at g1;split at g1
 .rename_i hr;rw[ne,aE,aE]at hr;have hu:=(hT _ _ (af hi)).arr n et ha;have hs:=(hT _ _ (af BA)).size;refine⟨_,Cc,g1,q1,l1,OpOk.pure fun j a w _ Au _ _ _=> ?_⟩;have hd:=Au x Or _ hx;simp only[V.den,C.den,de,SV.elem,Ay]at hd;obtain⟨s,CH,p,hp,he⟩:=hd;have hq:=cF (Au y Or _ hy);refine⟨.pointer (ZA (p.add ((e.I U).toNat*1+0))),by simp[V.den,C.den,CH,SV.elem,hp],?_⟩;have Ic:=he.symm;simp only[E.I,Int.toNat_zero,Nat.zero_mul,ZR]at Ic;have JJ:(p.add 0).add ((e.I U).toNat*1)=p.add ((e.I U).toNat*1+0):=by rw[bS];congr 1;omega
  rw[<-JJ];simp[execOp,Ad,Ic,hq,Instr.indexAt,run_underlying hu,ZW,asIntOf,hr,hs,MK,ZI]
 .exact g1.elim
def uS(g m:Nat):(⟨g,0,ZE⟩:Addr).add m=⟨g,m,ZE⟩:=by rw[bB,bP]
def aap{ty:Nat}{ps:List (Option Addr)}{p:Option Addr}(hh:w.heap[g]? =ZA (.cells (ps.map Value.pointer).toArray ty (0,0)))(hp:ps[m]? =ZA p):w.cell? ⟨g,m,ZE⟩=ZA (.pointer p):=by simp[World.cell?,hh,hp]
def yq(hT:∀t i,(t,i)∈cx.ty->TIok P t i)(Ad:o.op=.load t x){id:Nat}(hx:vw.ev x=ZA (.one (.ep id 1 e 0)))(hi:ap t cx.ty=ZA i)(Bu:i.agg=ZC)(hr:vw.tabw id=ZA r)(Cq:r.ks=ZE::ks)(Ei:0<ks.length)(h:(AK (GS e r.l) (fun ok kw=>if ok then AK (qp (Gu r.l e) (Hl r.l e) 0) (fun b kw=>if b then k {val:=.one (.ep vw.nid ks.length (.p 0) 0),rr:=[id],re:=.peek ⟨ks,r.ty,.lq .ln (Ez (Gu r.l e) (Hl r.l e) 1 ks),ZC,.sl⟩} kw else k {val:=.one .np,rr:=[id]} kw) kw else .stuck 270) kw).holds sp G U I)(hg:Good sp cx.sm U kw):Sound P sp U G I base cx vw o k kw:=by
 obtain⟨Cc,h1,g1,_,l1⟩:=aO _ _ _ h hg;rw[xl]at h1;have ht:=hT _ _ (af hi);split at h1
 .rename_i hb;simp only[ne,aE]at hb;obtain⟨Dq,h2,g2,_,l2⟩:=aO _ _ _ h1 g1;rw[uq]at h2;have As:(e.I U).toNat<(r.l.R U).length:=Fn;have AW:=AH As;obtain⟨row,EU⟩:∃row,row=(r.l.R U)[(e.I U).toNat]:=⟨_,rfl⟩
  rw[<-EU]at AW;have Cz:=ar3 AW;have hg0:gt ((Gu r.l e).R U) ((Hl r.l e).I U) 0=row.getD 0 0:=by unfold gt;rw[bZ (l:=(Gu r.l e).R U),Cz];rfl
  rw[hg0]at h2;have cell:∀{j:J} {a:Act} {w:World} {s:SV},j.s id=ZA s->TbAt U j w s r->(V.one (.ep id 1 e 0)).den U j=ZA (a.eval x)->∃p,PtIs j r.ks row p/\(execOp a.eval o).run P w=.ok (.value (.pointer p)) w:=by intro j a w s hs IF hd;obtain⟨g,ps,ty,a1,a2,a3,a4⟩:=IF;obtain⟨q,hq,he⟩:=xw hs hd;rw[a1]at hq;cases hq;have hp:=AH (show(e.I U).toNat<ps.length by omega);refine⟨_,a4 _ _ _ AW hp,?_⟩;have hc:=aap a2 hp;rw[uS,Nat.mul_one,ZR]at he;simp[execOp,Ad,he,Instr.loadAt,ZW,ZI,loadVar,ht.agg,Bu,load,Sem.run,hc]
  split at h2
  .rename_i h0;rw[cQ]at h0;refine⟨_,Dq,h2,g2,l2.trans l1,fun j a w hbs Au By Ca BQ Ef K Q hK=> ?_⟩;obtain⟨s,hs,Aj,IF,hz⟩:=BQ.tb id (by simp) r hr;obtain⟨p,hp,Cl⟩:=cell hs IF (Au x Or _ hx);cases p with
   |none=>rw[show row.getD 0 0=0 from hp]at h0;cases h0
   |some q=>
     obtain⟨_,⟨b,f,rfl⟩,vs,ty,z1,z2⟩:=hp;have De:=Aj.rows.row row (fI AW);rw[Cq]at De z2;have GN:az ks (row.drop 1)=ZB:=nG 1 De;have hL:=ang Cz ks 1 GN;have hh:=hz _ _ z1;have hR:(E.lq .ln (Ez (Gu r.l e) (Hl r.l e) 1 ks)).R U=[row.drop 1]:=by simp[E.R,hL]
     have E0:flat ks [row.drop 1]=Bm ks (row.drop 1):=by simp[flat]
     refine dH (w':=w) Cl (hK _ (j.putS vw.nid ⟨ZA ⟨b,f,ZE⟩,1,1,[]⟩) w ?_ ⟨rfl,⟨ZA ⟨b,f,ZE⟩,1,1,[]⟩,SlOk.row ⟨by rw[hR];rfl,⟨fun q hq=> ?_,by rw[hR];simp[maxLen]⟩,Ei,fun k hk=> ?_,fun ho=>(by cases ho),?_⟩ rfl,fun k hk=> ?_,rfl,rfl,fun e=>(by cases e)⟩)
     .simp[V.den,C.den,J.putS,SV.elem,E.I,bB]
     .rw[hR,dA]at hq;rw[hq];exact GN
     .have hk:=ay hk;simp only[SV.v,Value.ownBlock,bo]at hk;subst hk;exact(ig.1 hh).1
     .show RdRow w ks.length _ (flat ks ((E.lq .ln (Ez (Gu r.l e) (Hl r.l e) 1 ks)).R U));rw[hR,E0];refine⟨by rw[du GN];simp,ZK _,by simp[maxLen],fun h=>Xo,fun ad Ot m u hm=> ?_⟩;cases Ot;rw[bB];have e1:(Bm (ZE::ks) row)[m+1]? =ZA u:=by
       have:=pX (ks:=ZE::ks) 1 m De;rw[Nat.add_comm,this];exact hm
      have e2:=z2 m u e1;simp only at e2 hh;simp[World.cell?,hh,e2]
     .have hk:=ay hk;simp only[SV.v,Value.ownBlock,bo]at hk;subst hk;exact⟨_,z1,rfl⟩
  .rename_i h0;refine⟨_,Dq,h2,g2,l2.trans l1,OpOk.pure fun j a w _ Au _ BQ _=> ?_⟩;obtain⟨s,hs,Aj,IF,hz⟩:=BQ.tb id (by simp) r hr;obtain⟨p,hp,Cl⟩:=cell hs IF (Au x Or _ hx);cases p with
   |none=>exact⟨_,rfl,Cl⟩
   |some q=>exact ai (by rw[hp.1];rfl) h0
 .exact h1.elim
def vx(hT:∀t i,(t,i)∈cx.ty->TIok P t i)(Ad:o.op=.store t x y){id LH fo:Nat}(hx:vw.ev x=ZA (.one (.ep id 1 e 0)))(hy:vw.ev y=ZA (.one (.ep LH q.ks.length (.p 0) fo)))(hi:ap t cx.ty=ZA i)(MK:i.size=1)(hr:vw.tabw id=ZA r)(Cq:r.ks=ZE::ks)(hq:vw.sw LH=ZA q)(AL:q.own=ZB)(Va:q.ks.drop fo=ks)(h:(AK (GS e r.l) (fun ok kw=>if ok then AK (GS (.p 0) q.l) (fun ok kw=>if ok then k {val:=.one .undef,rr:=[LH,id],re:=.tset LH {q with own:=ZC} id {r with l:=.lput r.l e (.j (.tt ZB) (Ez q.l (.p 0) fo ks))}} kw else .stuck 271) kw else .stuck 272) kw).holds sp G U I)(hg:Good sp cx.sm U kw):Sound P sp U G I base cx vw o k kw:=by
 obtain⟨Cc,h1,g1,_,l1⟩:=aO _ _ _ h hg;rw[xl]at h1;have ht:=hT _ _ (af hi);split at h1
 .rename_i hb;simp only[ne,aE]at hb;obtain⟨Dq,h2,g2,_,l2⟩:=aO _ _ _ h1 g1;rw[xl]at h2;split at h2
  .rename_i Jd;simp only[ne,aE,E.I]at Jd;refine⟨_,Dq,h2,g2,l2.trans l1,fun j a w hbs Au By Ca BQ Ef K Q hK=> ?_⟩;obtain⟨st,EE,Aj,IF,hz⟩:=BQ.tb id (by simp) r hr;obtain⟨s,hs,OO⟩:=BQ.sl LH (by simp) q hq;obtain⟨g,ps,ty,a1,a2,a3,a4⟩:=IF;obtain⟨pa,UZ,he⟩:=xw EE (Au x Or _ hx);rw[a1]at UZ;cases UZ;rw[uS,Nat.mul_one,ZR]at he;obtain⟨pb,Rz,hv⟩:=xw hs (Au y Or _ hy);have Ry:=OO.own AL;obtain⟨kb,Hp,cur,b1,b2,b3,b4⟩:∃kb Hp cur,s.v=.slice (ZA ⟨kb,0,ZE⟩) s.n Hp/\w.heap[kb]? =ZA (.cells cur q.ty (0,0))/\cur.toList.take (s.n*q.ks.length)=flat q.ks (q.l.R U)/\pb=⟨kb,0,ZE⟩:=by
    rcases Ry.2 with⟨c1,c2⟩|⟨kb,Hp,cur,c1,_,c2,_,_,_,c3⟩
    .simp only[SV.v,Rz]at c1;cases c1
    .refine⟨kb,Hp,cur,c1,c2,c3,?_⟩;simp only[SV.v,Rz,Value.slice.injEq,bo]at c1;exact c1.1
   subst b4;have hvv:a.eval y=.pointer (ZA ⟨kb,fo,ZE⟩):=by rw[hv,uS];simp[E.I]
   have h0:0<(q.l.R U).length:=by have hh:=Jd.2;exact Int.ofNat_lt.1 (Ah hh)
   have GB:=AH h0;obtain⟨row,EU⟩:∃row,row=(q.l.R U)[0]:=⟨_,rfl⟩
   rw[<-EU]at GB;have De:=OO.rows.row row (fI GB);have GN:=nG fo De;rw[Va]at GN;have hL:=ang (U:=U) (e:=.p 0) GB ks fo GN;have As:(e.I U).toNat<ps.length:=Fn;have BB:=aap a2 (AH As);have Km:w.frozen? ⟨g,(e.I U).toNat,ZE⟩=ZC:=by simp[World.frozen?,a2]
   have Kr:=heap_setCell_same w g (e.I U).toNat (ps.map Value.pointer).toArray ty (.pointer (ZA ⟨kb,fo,ZE⟩)) a2;have OQ:((ps.map Value.pointer).toArray.setIfInBounds (e.I U).toNat (.pointer (ZA ⟨kb,fo,ZE⟩)))=((ps.set (e.I U).toNat (ZA ⟨kb,fo,ZE⟩)).map Value.pointer).toArray:=by simp[List.map_set]
   rw[OQ]at Kr;have hR:(E.lput r.l e (.j (.tt ZB) (Ez q.l (.p 0) fo ks))).R U=(r.l.R U).set (e.I U).toNat (1::row.drop fo):=by simp only[E.R,E.L,hL,E.B];rfl
   have K2:az (ZE::ks) (1::row.drop fo)=ZB:=by simp[az,Dp,GN]
   have hst2:st.v.ownBlock=ZA g:=by simp[SV.v,a1,Value.ownBlock]
   refine uW (w':=w.setCell ⟨g,(e.I U).toNat,ZE⟩ (.pointer (ZA ⟨kb,fo,ZE⟩))) ?_ (hK _ (j.addz [(kb,.cells cur q.ty (0,0))]) _ rfl ⟨s,st,kb,.cells cur q.ty (0,0),hs,EE,OO.shut.row (Vw.sw_some hq).2,HdOk.row ⟨Aj.own,⟨fun z MZ=> ?_,?_⟩,Aj.c,g,_,a1,?_,Kr,?_⟩ (by rw[show r.kd=.tab from(Vw.tabw_some hr).2];rfl),by rw[b1];rfl,b2,rfl,?_,rfl,⟨g,ps.set (e.I U).toNat (ZA ⟨kb,fo,ZE⟩),ty,a1,Kr,?_,fun m EX p hm hp=> ?_⟩,fun e=>by rw[show q.kd=.sl from(Vw.sw_some hq).2]at e;cases e⟩)
   .have hst1:(storeCells ⟨g,(e.I U).toNat,ZE⟩ [Value.pointer (ZA ⟨kb,fo,ZE⟩)] 0).run P w=.ok () (w.setCell ⟨g,(e.I U).toNat,ZE⟩ (.pointer (ZA ⟨kb,fo,ZE⟩))):=by
     have ID:(Value.pointer (ZA ⟨kb,fo,ZE⟩)).oneCell'=ZB:=rfl;simp only[storeCells,bB,ZR,ZI,run_store P w _ _ _ ID,BB,Km,Result.andThen_ok,Bool.false_eq_true,eA,Sem.run_pure]
    have CS:(Value.pointer (ZA ⟨kb,fo,ZE⟩)).cells = #[Value.pointer (ZA ⟨kb,fo,ZE⟩)]:=rfl;simp[execOp,Ad,he,hvv,Instr.storeAt,ZW,ZI,storeVar,ht.size,MK,CS,hst1]
   .have MZ:z∈(E.lput r.l e (.j (.tt ZB) (Ez q.l (.p 0) fo ks))).R U:=MZ;rw[hR]at MZ;rcases List.mem_or_eq_of_mem_set MZ with h'|h'
    .exact Aj.rows.row z h'
    .show az r.ks z=ZB;rw[Cq,h'];exact K2
   .show((E.lput r.l e (.j (.tt ZB) (Ez q.l (.p 0) fo ks))).R U).length<=maxLen;rw[hR,List.length_set];exact Aj.rows.len
   .obtain⟨g',o',c1,c2,_⟩:=Aj.at';rw[a1]at c1;cases c1;exact c2
   .show Le U st {r with l:=_} _;unfold Le;simp only[(Vw.tabw_some hr).2];exact⟨_,_,rfl⟩
   .rw[hst2];exact⟨rfl,rfl,rfl,by simp[World.setCell],fun k _ hk=>heap_setCell_other w _ k _ (fun e=>hk (by rw[e]))⟩
   .show _=((E.lput r.l e (.j (.tt ZB) (Ez q.l (.p 0) fo ks))).R U).length;rw[hR,List.length_set,List.length_set,a3]
   .have hm:((E.lput r.l e (.j (.tt ZB) (Ez q.l (.p 0) fo ks))).R U)[m]? =ZA EX:=hm;have hzk:(j.addz [(kb,.cells cur q.ty (0,0))]).g.z kb=ZA (.cells cur q.ty (0,0)):=by simp[J.addz,J.setz,Gh.setz]
    have K3:∀k o,Cg o=ZB->j.g.z k=ZA o->(j.addz [(kb,.cells cur q.ty (0,0))]).g.z k=ZA o:=fun k o _ hko=>by
     by_cases HN:k=kb
     .have:=hz k o hko;rw[HN,b2]at this;cases this;rw[HN];exact hzk
     .simp[J.addz,J.setz,Gh.setz,HN,hko]
    rw[hR]at hm;show PtIs _ r.ks EX p;by_cases P0:(e.I U).toNat=m
    .rw[<-P0,List.getElem?_set_self Fn]at hm;rw[<-P0,List.getElem?_set_self As]at hp;cases hm;cases hp;refine⟨rfl,⟨kb,fo,rfl⟩,cur,q.ty,hzk,fun c v hc=> ?_⟩;rw[Cq]at hc;have hc:(Bm ks (row.drop fo))[c]? =ZA v:=hc;have hd:=pX fo c De;rw[Va]at hd;rw[<-hd]at hc;have E0:(flat q.ks (q.l.R U))[fo+c]? =ZA v:=by
      obtain⟨L',hL'⟩:∃L',q.l.R U=row::L':=by
       cases hqq:q.l.R U with
       |nil=>rw[hqq]at h0;simp at h0
       |cons z L'=>rw[hqq]at GB;simp at GB;exact⟨L',by rw[GB]⟩
      rw[hL',cN,A9 (cZ.1 hc).1];exact hc
     rw[<-b3,List.getElem?_take]at E0;split at E0
     .simpa using E0
     .cases E0
    .rw[pB P0]at hm hp;exact(a4 m EX p hm hp).mono K3
  .exact h2.elim
 .exact h1.elim
def yr(hT:∀t i,(t,i)∈cx.ty->TIok P t i)(Ad:o.op=.store t x y){id:Nat}(hx:vw.ev x=ZA (.one (.ep id r.ks.length (.p 0) off))){v:V}(hy:vw.ev y=ZA v)(hi:ap t cx.ty=ZA i)(hr:vw.sw id=ZA r)(K5:r.own=ZB)(hf:v.flat=ZB)(hn:v.cells.length=i.size)(OM:off+i.size<=r.ks.length){row EX:E}(hl:r.l=.lq .ln row)(hrg:Zb kw.vk v.cells kw.vk 0=ZB)(hsp:yN off r.ks row v.cells=ZA EX)(h:(k {val:=.one .undef,rr:=[id],re:=.set id {r with l:=.lq .ln EX}} kw).holds sp G U I)(hg:Good sp cx.sm U kw):Sound P sp U G I base cx vw o k kw:=by
 have ht:=hT _ _ (af hi);obtain⟨l',UY,ON⟩:=tV (U:=U) off v.cells r.ks row EX (.lq .ln row) [] (rngs_ok _ kw.vk 0 rfl hrg) hsp (by simp[E.R]);simp only[List.length_nil,bP,YP]at UY ON;have hR':(E.lq .ln EX).R U=l'.R U:=by rw[ON];simp[E.R]
 refine⟨_,kw,h,hg,.refl _,fun j a w _ Au By Ca BQ Ef K Q hK=> ?_⟩;obtain⟨s,hs,Aj⟩:=BQ.sl id (by simp) r hr;obtain⟨p,hp,he⟩:=xw hs (Au x Or _ hx);have hd:=V.cells_ok (Au y Or v hy) hf;have AL:=Aj.own K5;obtain⟨g,rfl,Kq⟩:=abu AL hp;rw[Kq]at AL;have AS:=Aj.rows;rw[hl]at AL AS;obtain⟨w',h2,h3,h4,h5,h6⟩:=jU (P:=P) hg.vk (r.ks.drop off) v.cells (.lq .ln row) l' off 0 _ w ((⟨g,0,ZE⟩:Addr).add (((E.p 0).I U).toNat*r.ks.length+off)) UY hd r.ks (fun m=>by rw[List.getElem?_drop]) AS (by simp[E.I,E.R]) AL
  (fun m=>by rw[bS,bB];congr 1;omega)
 have BR:(a.eval y).cells.size=i.size:=by have:=aV hd;rw[Array.length_toList,hn]at this;exact this
 have UV:s.n=1:=by rw[Aj.n,hl];simp[E.R]
 refine uW (w':=w') ?_ (hK _ j w' rfl ⟨rfl,s,hs,?_,RowOk.mk_own (r:={r with l:=.lq .ln EX}) (Vw.sw_some hr).2 (by rw[UV];simp[E.R]) (by rw[hR'];exact h5) Aj.pos (by rw[Kq];simp only;rw[hR'];exact h3),fun e=>by rw[show r.kd=.sl from(Vw.sw_some hr).2]at e;cases e⟩)
 .simp[execOp,Ad,he,Instr.storeAt,ZW,ZI,storeVar,ht.size,BR,h2]
 .rw[Kq];exact h4
def afj(hT:∀t i,(t,i)∈cx.ty->TIok P t i)(Ad:o.op=.call c)(hc:c.callee=.builtin .clear){l0 l1:Nat}{mx:E}(hl:Ew vw.ev c.args.toList=ZA [.one (.aw b off n sz (.p l0) (.p l1) mx)])(C8:c.argTypes.toList=[t])(hi:ap t cx.ty=ZA i)(ha:i.sle=ZA et)(BA:ap et cx.ty=ZA ie)(BR:ie.size=sz)(As:l0<l1)(OI:(mx.I U).toNat≠l0)(Ek:((ZM (l1-l0) ie.zero).flatten).all C.solid=ZB)(h:(k {val:=.tup [],wr:=eN b (off+l0*sz) ((ZM (l1-l0) ie.zero).flatten)} kw).holds sp G U I)(hg:Good sp cx.sm U kw):Sound P sp U G I base cx vw o k kw:=by
 refine⟨_,kw,h,hg,.refl _,fun j a w _ Au By Ca _ _ K Q hK=> ?_⟩;obtain⟨h1,h2⟩:=jn (j:=j) (a:=a) hl (fun x hx=>Au x Xp);obtain⟨u,hu1,RP⟩:∃u,c.args.toList.map a.eval=[u]/\(V.one (.aw b off n sz (.p l0) (.p l1) mx)).den U j=ZA u:=by
  match hm:c.args.toList.map a.eval,h2 with
  |[u],_=>exact⟨u,rfl,h1 0 _ u rfl (by rw[hm];rfl)⟩
 have B3:c.args.map a.eval = #[u]:=by rw[<-Array.toArray_toList (xs:=c.args.map a.eval),Array.toList_map,hu1]
 have Dx:c.argTypes = #[t]:=Xu;have hu:=(hT _ _ (af hi)).sle et ha;obtain⟨z,hz,II⟩:=(hT _ _ (af BA)).zero;obtain⟨CL,z',C7,Cy,_,MZ,Ih,_⟩:=(hT _ _ (af BA)).info;simp only[V.den,C.den,Ay]at RP;obtain⟨kk,hk,rfl⟩:=RP;have hzc:z.cells.size=sz:=by
  have e1:=aV (II U j);have e2:(zeroValue et).run P w=.ok z' w:=by simp[zeroValue,typeInfo,C7,MZ,ZI]
  rw[hz w]at e2;cases e2;rw[Array.length_toList]at Ih;rw[Ih,BR]
 have KR:Af U j ((ZM (l1-l0) ie.zero).flatten)=ZA (Builtin.zeroCells z.cells (l1-l0)).toList:=by
  have e1:(Builtin.zeroCells z.cells (l1-l0)).toList=(ZM (l1-l0) z.cells.toList).flatten:=oR z.cells (l1-l0);rw[e1];generalize l1-l0=m
  induction m with
  |zero=>rfl
  |succ m ih=>simp only[List.replicate_succ,List.flatten_cons];exact gB (II U j) ih
 obtain⟨w',RS,Kr⟩:=dK (P:=P) hk ⟨kk,off+l0*sz,ZE⟩ ((ZM (l1-l0) ie.zero).flatten) (off+l0*sz) 0 _ w (fun m=>by rw[bP,bB]) KR Ek Ca;refine dH (w':=w') (v:=.tuple #[]) ?_ (hK _ j w' rfl ⟨rfl,w,.refl w,RS⟩);have Ix:((⟨ZA ⟨kk,off,ZE⟩,n,n,[]⟩:SV).cut sz ((E.p (l0:Int)).I U).toNat ((E.p (l1:Int)).I U).toNat (mx.I U).toNat).v=.slice (ZA ⟨kk,off+l0*sz,ZE⟩) (l1-l0) ((mx.I U).toNat-l0):=by have e5:((E.p (l0:Int)).I U).toNat=l0:=cY l0;have e6:((E.p (l1:Int)).I U).toNat=l1:=cY l1;rw[e5,e6];simp only[SV.cut,SV.v];rw[aa OI];simp only[YR,bB]
 rw[Ix]at B3;obtain⟨m,hm⟩:∃m,l1-l0=m+1:=⟨l1-l0-1,by omega⟩
 rw[hm]at B3 Kr;simp only[execOp,Ad,resolve,hc,B3,Dx,ZI,Sem.run_pure,Result.andThen_ok,invoke,builtin];simp[Builtin.clear_,run_underlying hu,hz,Kr,ZI]
def opT(cx:Cx)(vw:Vw)(op:Op)(kw:Kw)(k:Eff->Kw->Tr):Option Tr:=match op with
 |.alloc t=>match ap t cx.ty with
   |some i=>if zk cx t then(match JW i.zero with
    |some ks=>match Gt kw.vk ks i.zero with
      |some r=>if decide (0<ks.length)then ZA (k {val:=.one (.ep vw.nid ks.length (.p 0) 0),re:=.mk [⟨ks,t,.lq .ln r,ZB,.sl⟩]} kw)else ZE
      |none=>ZE
    | none=>ZE)
     else if ah1 cx t then(match i.zero with
      |.int kd _::_=>if i.zero.all (C.isZk kd)&&decide (i.zero.length<=65536)then ZA (k {val:=.one (.ep vw.nid 1 (.p 0) 0),re:=.mk [⟨[ZA kd],t,.lrep (.p i.zero.length) (.cons (.p 0) .nil),ZB,.sl⟩]} kw)else ZE
      |_=>ZE)
     else match aoY cx with
      |some (t',ks,st)=>if ZJ t t'&&(i.zero.all C.isNilp&&decide (i.zero.length<=65536))then ZA (k {val:=.one (.ep vw.nid 1 (.p 0) 0),re:=.mk [⟨ZE::ks,st,.lrep (.p i.zero.length) (sP (ZE::ks)),ZB,.tab⟩]} kw)else ZE
      |none=>ZE
   |none=>ZE
 |.box t x=>match vw.ev x with
   |some v=>if zk cx t&&v.flat then(match JW v.cells with
    |some ks=>match Gt kw.vk ks v.cells with
      |some r=>if decide (0<ks.length)then ZA (k {val:=.one (.ep vw.nid ks.length (.p 0) 0),re:=.mk [⟨ks,t,.lq .ln r,ZB,.sl⟩]} kw)else ZE
      |none=>ZE
    |none=>ZE)else ZE
   |none=>ZE
 |.indexAddr t x y=>match vw.ev x,vw.ev y,ap t cx.ty with
   |some (.one (.ep id Bt (.p z) off)),ZA (.one (.int _ e)),ZA i=>match i.arr with
     |some (n,et)=>match ap et cx.ty with
       |some ie=>if((vw.tabw id).isSome||ah1 cx t)&&ZJ Bt 1&&(ZJ off 0&&(fH z 0&&ZJ ie.size 1))then ZA (AK (Ks e n) (fun ok kw=>if ok then k {val:=.one (.ep id 1 e 0)} kw else .panic) kw)else ZE
       |none=>ZE
     |_=>ZE
   |_,_,_=>ZE
 |.load t x=>match vw.ev x,ap t cx.ty with
   |some (.one (.ep id Bt e off)),ZA i=>match vw.tabw id with
     |some r=>match r.ks with
       |none::ks=>if ZJ Bt 1&&(ZJ off 0&&(!i.agg&&decide (0<ks.length)))then
        ZA (AK (GS e r.l) (fun ok kw=>if ok then AK (qp (Gu r.l e) (Hl r.l e) 0) (fun b kw=>if b then k {val:=.one (.ep vw.nid ks.length (.p 0) 0),rr:=[id],re:=.peek ⟨ks,r.ty,.lq .ln (Ez (Gu r.l e) (Hl r.l e) 1 ks),ZC,.sl⟩} kw else k {val:=.one .np,rr:=[id]} kw) kw else .stuck 270) kw)else ZE
       |_=>ZE
     |none=>ZE
   |_,_=>ZE
 |.store t x y=>match vw.ev x,vw.ev y,ap t cx.ty with
   |some (.one (.ep id Bt e off)),ZA v,ZA i=>match vw.tabw id with
     |some r=>match v,r.ks with
       |.one (.ep LH sz (.p z) fo),ZE::ks=>match vw.sw LH with
         |some q=>if(ZJ Bt 1&&(ZJ off 0&&(fH z 0&&(ZJ i.size 1&&ZJ sz q.ks.length))))&&(q.own&&di (q.ks.drop fo) ks)then
          ZA (AK (GS e r.l) (fun ok kw=>if ok then AK (GS (.p 0) q.l) (fun ok kw=>if ok then k {val:=.one .undef,rr:=[LH,id],re:=.tset LH {q with own:=ZC} id {r with l:=.lput r.l e (.j (.tt ZB) (Ez q.l (.p 0) fo ks))}} kw else .stuck 271) kw else .stuck 272) kw)else ZE
         |none=>ZE
       |_,_=>ZE
     |none=>match e,vw.sw id with
       |.p z,ZA r=>match r.l with
         |.lq .ln row=>if(zk cx r.ty&&(fH z 0&&(ZJ Bt r.ks.length&&r.own)))&&(v.flat&&(ZJ v.cells.length i.size&&(decide (off+i.size<=Bt)&&Zb kw.vk v.cells kw.vk 0)))then
          (match yN off r.ks row v.cells with
          |some EX=>ZA (k {val:=.one .undef,rr:=[id],re:=.set id {r with l:=.lq .ln EX}} kw)
          |none=>ZE)else ZE
         |_=>ZE
       |_,_=>ZE
   |_,_,_=>ZE
 |.call c=>match c.callee with
   |.builtin .clear=>match Ew vw.ev c.args.toList,c.argTypes.toList with
     |some [.one (.aw b off n sz (.p (.ofNat l0)) (.p (.ofNat l1)) (.p (.ofNat l2)))],[t]=>match ap t cx.ty with
       |some i=>match i.sle with
         |some et=>match ap et cx.ty with
           |some ie=>if ZJ ie.size sz&&(decide (l0<l1)&&(decide (l0<l2)&&((ZM (l1-l0) ie.zero).flatten).all C.solid))then
            ZA (k {val:=.tup [],wr:=eN b (off+l0*sz) ((ZM (l1-l0) ie.zero).flatten)} kw)else ZE
           |none=>ZE
         |none=>ZE
       |none=>ZE
     |_,_=>ZE
   |_=>ZE
 |_=>ZE
def asq(hT:∀t i,(t,i)∈cx.ty->TIok P t i)(ht:opT cx vw o.op kw k=ZA tr)(h:tr.holds sp G U I)(hg:Good sp cx.sm U kw):Sound P sp U G I base cx vw o k kw:=by
 cases Ad:o.op<;>rw[Ad]at ht<;>simp only[opT]at ht
 case alloc t=>
  split at ht
  .rename_i i hi;split at ht
   .split at ht
    .rename_i ks hk;split at ht
     .rename_i r hr;split at ht
      next hp=>cases ht;exact vJ hT Ad hi hr (Ah hp) h hg
      .exact Xr
     .exact Xr
    .exact Xr
   .split at ht
    .split at ht
     .rename_i kd _ _ _;split at ht
      next hp=>simp only[ne,aE]at hp;cases ht;exact vK hT Ad hi hp.1 hp.2 h hg
      .exact Xr
     .exact Xr
    .split at ht
     .rename_i t' ks st _;split at ht
      next hp=>simp only[ne,aE]at hp;cases ht;exact vI hT Ad hi ks st hp.2.1 hp.2.2 h hg
      .exact Xr
     .exact Xr
  .exact Xr
 case box t x=>
  split at ht
  .rename_i v hv;split at ht
   .rename_i hf;rw[ne]at hf;split at ht
    .rename_i ks hk;split at ht
     .rename_i r hr;split at ht
      next hp=>cases ht;exact acN Ad hv hf.2 hr (Ah hp) h hg
      .exact Xr
     .exact Xr
    .exact Xr
   .exact Xr
  .exact Xr
 case indexAddr t x y=>
  split at ht
  .rename_i id Bt z off k0 e i hx hy hi;split at ht
   .rename_i n et ha;split at ht
    .rename_i ie BA;split at ht
     next hp=>simp only[ne]at hp;obtain⟨⟨_,p1⟩,p2,p3,p4⟩:=hp;have p1:=Ak p1;have p2:=Ak p2;have p3:=cX p3;subst p1 p2 p3;cases ht;exact vy hT Ad hx hy hi ha BA (Ak p4) h hg
     .exact Xr
    .exact Xr
   .exact Xr
  .exact Xr
 case load t x=>
  split at ht
  .rename_i id Bt e off i hx hi;split at ht
   .rename_i r hr;split at ht
    .rename_i ks Cq;split at ht
     next hp=>simp only[ne,aE,ZO]at hp;obtain⟨p1,p2,p3,p4⟩:=hp;have p1:=Ak p1;have p2:=Ak p2;subst p1 p2;cases ht;exact yq hT Ad hx hi p3 hr Cq p4 h hg
     .exact Xr
    .exact Xr
   .exact Xr
  .exact Xr
 case store t x y=>
  split at ht
  .rename_i id Bt e off v i hx hy hi;split at ht
   .rename_i r hr;split at ht
    .rename_i LH sz z fo ks Cq;split at ht
     .rename_i q hq;split at ht
      next hp=>simp only[ne]at hp;obtain⟨⟨p1,p2,p3,p4,p5⟩,p6,p7⟩:=hp;have p1:=Ak p1;have p2:=Ak p2;have p3:=cX p3;have p5:=Ak p5;subst p1 p2 p3 p5;cases ht;exact vx hT Ad hx hy hi (Ak p4) hr Cq hq p6 (cO p7) h hg
      .exact Xr
     .exact Xr
    .exact Xr
   .split at ht
    .rename_i z r hr;split at ht
     .rename_i row hl;split at ht
      .rename_i hp;simp only[ne,aE]at hp;obtain⟨⟨p1,p2,p3,p4⟩,p5,p6,p7,p8⟩:=hp;have p2:=cX p2;have p3:=Ak p3;subst p2 p3;split at ht
       next EX hsp=>cases ht;exact yr hT Ad hx hy hi hr p4 p5 (Ak p6) p7 hl p8 hsp h hg
       .exact Xr
      .exact Xr
     .exact Xr
    .exact Xr
  .exact Xr
 case call c=>
  split at ht
  .rename_i hc;split at ht
   .rename_i b off n sz l0 l1 l2 t hl C8;split at ht
    .rename_i i hi;split at ht
     .rename_i et ha;split at ht
      .rename_i ie BA;split at ht
       next hp=>simp only[ne,aE]at hp;obtain⟨p1,p2,p3,p4⟩:=hp;cases ht;exact afj hT Ad hc hl C8 hi ha BA (Ak p1) p2 (by show(Int.ofNat l2).toNat≠l0;simp;omega) p4 h hg
       .exact Xr
      .exact Xr
     .exact Xr
    .exact Xr
   .exact Xr
  .exact Xr
 all_goals cases ht
def Lf(cx:Cx)(vw:Vw)(op:Op)(kw:Kw)(k:Eff->Kw->Tr):Tr:=match opT cx vw op kw k with
 |some t=>t
 |none=>O6 cx vw op kw k
def apR(hT:∀t i,(t,i)∈cx.ty->TIok P t i)(hS:∀s∈cx.sm,SmOk P sp s)(AR:∀s∈cx.sm,∀s'∈cx.sm,s.key=s'.key->s=s')(h:(Lf cx vw o.op kw k).holds sp G U I)(hg:Good sp cx.sm U kw):Sound P sp U G I base cx vw o k kw:=by
 unfold Lf at h;split at h
 next t ht=>exact asq hT ht h hg
 .exact apQ hT hS AR h hg
end
end Go.Proofs.YtgolejfhoefeaaaGreatDoor
