import Derived.Test.YtgolejfhoefeaabGreatDoorAaZ
import Derived.Maps.RangeRun
import Derived.Sort.Row
import Derived.Laws.CopyRow
import Derived.Laws.BytesString
set_option maxRecDepth 100000
set_option maxHeartbeats 8000000
set_option linter.defProp false
set_option linter.unusedVariables false
set_option linter.unusedSimpArgs false
namespace Go.Proofs.YtgolejfhoefeaabGreatDoor
open Option renaming some->ZA,none->ZD,map_some->ZK
open Bool renaming true->ZB,false->ZC,not_eq_true'->ZL,false_eq_true->ZY
open Sem renaming run_bind->ZH
open Nat renaming beq->ZI,le_refl->YJ,add_zero->ZP,add_assoc->ZU
open List renaming replicate->YK,length_cons->YM,nil_append->ZM,mem_cons->ZN,append_nil->YO,length_take->YQ,map_cons->YR,mem_append->ZS,foldl_cons->YT,length_set->YU,all_cons->YV,length_drop->ZV,mem_append_right->ZW,mem_append_left->YZ
open Option.some renaming inj->YL
open Go.Instr renaming sureAddr->ZR,sliceBounds->YX
open Go.RowKit
variable {kw:Kw}{t et n off b nk Bj kt sz h base g nid o0 t':Nat}{i ie ki ei:TI}{r q:RowOb}{e l lo hi:E}{x y:Operand}{w w':World}{j:J}{c:Call}{s u:SV}{cs:List C}{ks:List CE}{va ka:Bool}{v K:Value}{vk:List VK}{k0 kd:IntKind}{ρ:Env}{L:LL}{d:C}{xs:List Value}{ps:Array (Nat×Operand)}{A0:List (Nat×V)}{row key:List Int}{A6:Option Operand}{a:Act}{kv:V}{mx:Option E}
section
variable {P:Program}{sp:Spec}{ρ:Env}{G:Env->E->Prop}{I:Nat->List Dt->Prop}{base:Nat}{cx:Cx}{vw:Vw}{o:Oper}{k:Eff->Kw->Tr}
def uL{e:E}{n:Nat}{kk:Nat->Kw->Tr}:∀(m:Nat) (kw:Kw),m<=n->(uM e n kk m kw).holds sp G ρ I->Good sp cx.sm ρ kw->∃i Ak,i<n/\e.I ρ=(i:Int)/\(kk i Ak).holds sp G ρ I/\Good sp cx.sm ρ Ak/\KwGe Ak kw
 |0,kw,_,h,hg=>h.elim
 |m+1,kw,hm,h,hg=>by
   simp only[uM]at h;obtain⟨Bn,h1,g1,_,l1⟩:=aC _ _ _ h hg;rw[qL]at h1;split at h1
   .rename_i hb;have D8:e.I ρ=((n-(m+1):Nat):Int):=by simpa[E.I]using hb
    exact⟨n-(m+1),Bn,by omega,D8,h1,g1,l1⟩
   .obtain⟨i,Dd,h2,h3,h4,g2,l2⟩:=uL m Bn Fn h1 g1;exact⟨i,Dd,h2,h3,h4,g2,l2.trans l1⟩
def iP(hT:∀t i,(t,i)∈cx.ty->TIok P t i)(Ab:o.op=.indexAddr t x y){c:C}{c':Nat->C}(hx:vw.ev x=ZA (.one c))(hy:vw.ev y=ZA (.one (.int k0 e)))(hi:aj t cx.ty=ZA i)(ha:i.arr=ZA (n,et))(AZ:aj et cx.ty=ZA ie)(hmv:∀m j v,c.den ρ j=ZA v->∃a,v=.pointer (ZA a)/\(c' m).den ρ j=ZA (.pointer (ZA (a.add (m*ie.size)))))(h:(uM e n (fun m kw=>k {val:=.one (c' m)} kw) n kw).holds sp G ρ I)(hg:Good sp cx.sm ρ kw):Sound P sp ρ G I base cx vw o k kw:=by
 obtain⟨m,Ak,hm,he,h1,g1,l1⟩:=uL n kw (YJ _) h hg;have hu:=(hT _ _ (af hi)).arr n et ha;have hs:=(hT _ _ (af AZ)).size;refine⟨_,Ak,h1,g1,l1,OpOk.pure fun j a w _ Ao _ _ _=> ?_⟩;obtain⟨p,hp,hd⟩:=hmv m j _ (Ao x Or _ hx);have hq:=bS (Ao y Or _ hy);refine⟨_,hd,?_⟩;have Ap:(0:Int)<=(m:Int)/\(m:Int)<(n:Int):=Fn;simp[execOp,Ab,hp,hq,he,Instr.indexAt,run_underlying hu,ZR,asIntOf,Ap,hs,ZH];omega
def afV(hT:∀t i,(t,i)∈cx.ty->TIok P t i)(Ab:o.op=.index t x y)(hx:vw.ev x=ZA (.agg cs))(hy:vw.ev y=ZA (.one (.int k0 e)))(hi:aj t cx.ty=ZA i)(ha:i.arr=ZA (n,et))(AZ:aj et cx.ty=ZA ie)(h:(uM e n (fun m kw=>match Oz cx et cs (m*ie.size)with|some v=>k {val:=v} kw|none=>.stuck 30) n kw).holds sp G ρ I)(hg:Good sp cx.sm ρ kw):Sound P sp ρ G I base cx vw o k kw:=by
 obtain⟨m,Ak,hm,he,h1,g1,l1⟩:=uL n kw (YJ _) h hg;have hu:=(hT _ _ (af hi)).arr n et ha;have hs:=(hT _ _ (af AZ)).size;split at h1
 next v hv=>refine⟨_,Ak,h1,g1,l1,OpOk.pure fun j a w _ Ao _ _ _=> ?_⟩;have hd:=Ao x Or _ hx;simp only[V.den,Av]at hd;obtain⟨vs,EP,hp⟩:=hd;have hq:=bS (Ao y Or _ hy);obtain⟨u,Ib,hr⟩:=ahB hT hv EP w;refine⟨u,Ib,?_⟩;have Ap:(0:Int)<=(m:Int)/\(m:Int)<(n:Int):=Fn;simp[execOp,Ab,<-hp,hq,he,Instr.index,run_underlying hu,asIntOf,Ap,hs,ZH,hr];omega
 .exact h1.elim
def rQ(ρ:Env)(e l:E):(Fo e l).B ρ=(decide (0<=e.I ρ)&&decide (e.I ρ<((l.R ρ).length:Int))):=by simp only[Fo,dQ,db,cC,bO,E.I];rw[dq];rfl
def wl(hT:∀t i,(t,i)∈cx.ty->TIok P t i)(Ab:o.op=.indexAddr t x y){id:Nat}(hx:vw.ev x=ZA (.one (.sl id)))(hy:vw.ev y=ZA (.one (.int k0 e)))(hi:aj t cx.ty=ZA i)(ha:i.sle=ZA et)(AZ:aj et cx.ty=ZA ie)(hr:vw.sw id=ZA r)(Bx:r.ks.length=ie.size)(h:(AB (Fo e r.l) (fun b kw=>if b then k {val:=.one (.ep id ie.size e 0),rr:=[id]} kw else .panic) kw).holds sp G ρ I)(hg:Good sp cx.sm ρ kw):Sound P sp ρ G I base cx vw o k kw:=by
 obtain⟨Ak,h1,g1,_,l1⟩:=aC _ _ _ h hg;rw[rQ]at h1;split at h1
 .rename_i hb;simp only[ne,ax]at hb;refine⟨_,Ak,h1,g1,l1,OpOk.pure fun j a w _ Ao _ A3 _=> ?_⟩;obtain⟨s,hs,Ai⟩:=A3.sl id (by simp) r hr;have hd:=Ao x Or _ hx;simp only[V.den,C.den,hs,ZK,aU]at hd;have hq:=bS (Ao y Or _ hy);have hu:=(hT _ _ (af hi)).sle et ha;have BC:=(hT _ _ (af AZ)).size;obtain⟨sa,sn,sc,sz⟩:=s;have hn:=Ai.n;simp only at hn;have A9:=Ai.rd;cases sa with
  |none=>have:=(A9.2.2.2.1 rfl).1;simp only at this;omega
  |some p=>refine⟨.pointer (ZA (p.add ((e.I ρ).toNat*ie.size+0))),by simp[V.den,C.den,hs,SV.elem],?_⟩;have Ap:(0:Int)<=e.I ρ/\e.I ρ<(sn:Int):=Fn;simp[execOp,Ab,<-hd,SV.v,hq,Instr.indexAt,run_underlying hu,asIntOf,Ap,BC,ZH]
 .exact h1.elim
def dS{a:Addr}{w:World}:∀(vs:List Value) (i:Nat) (KH:Array Value),(∀m u,vs[m]? =ZA u->w.cell? (a.add (i+m))=ZA u)->(loadCellsFrom a i vs.length KH).run P w=.ok (KH++vs.toArray) w
 |[],i,KH,_=>by simp[loadCellsFrom]
 |v::vs,i,KH,h=>by have h0:=h 0 v rfl;simp only[ZP]at h0;simp only[YM,loadCellsFrom,ZH,load,Sem.run,h0,Result.andThen_ok];rw[dS vs (i+1) _ (fun m u hu=>by rw[ZU,Nat.add_comm 1 m];exact h (m+1) u XW)];simp
def lM{j:J}:∀{cs:List C} {vs:List Value},cs.length=vs.length->(∀(m:Nat) c,cs[m]? =ZA c->∃u,vs[m]? =ZA u/\c.den ρ j=ZA u)->Ad ρ j cs=ZA vs
 |[],vs,hl,_=>by
   cases vs with
   |nil=>rfl
   |cons=>cases hl
 |c::cs,vs,hl,h=>by
   cases vs with
   |nil=>cases hl
   |cons v vs=>obtain⟨u,hu,hd⟩:=h 0 c rfl;simp only[cH,aU]at hu;subst hu;have:=lM (cs:=cs) (vs:=vs) Ya (fun m c hm=>by simpa using h (m+1) c XN);simp[Ad,hd,this]
def jN{ld:Nat->Nat->Option C}{b:Nat}:∀(n o:Nat) (cs:List C),jO ld b o n=ZA cs->cs.length=n/\∀m c,cs[m]? =ZA c->ld b (o+m)=ZA c
 |0,o,cs,h=>by cases h;exact⟨rfl,fun m c hm=>by simp at hm⟩
 |n+1,o,cs,h=>by
   simp only[jO]at h;cases hc:ld b o with
   |none=>rw[hc]at h;cases h
   |some c=>
     cases hl:jO ld b (o+1) n with
     |none=>rw[hc,hl]at h;cases h
     |some l=>
       rw[hc,hl]at h;cases h;obtain⟨h1,h2⟩:=jN n (o+1) l hl;refine⟨by simp[h1],fun m c' hm=> ?_⟩;cases m with
       |zero=>simp at hm;subst hm;exact hc
       |succ m=>rw[show o+(m+1)=o+1+m by omega];exact h2 m c' XN
def Pv(h:(V.one (.fp b off)).den ρ j=ZA v):∃kk,j.f b=ZA kk/\v=.pointer (ZA ⟨kk,off,ZD⟩):=by simp only[V.den,C.den,Av]at h;obtain⟨kk,hk,rfl⟩:=h;exact⟨kk,hk,rfl⟩
def um(hT:∀t i,(t,i)∈cx.ty->TIok P t i)(Ab:o.op=.load t x)(hx:vw.ev x=ZA (.one (.fp b off)))(hi:aj t cx.ty=ZA i)(Bh:i.agg=ZB)(CJ:jO (fun b o=>(vw.fb b).bind (·[o]?)) b off i.size=ZA cs)(El:cs.all C.solid=ZB)(h:(k {val:=.agg cs} kw).holds sp G ρ I)(hg:Good sp cx.sm ρ kw):Sound P sp ρ G I base cx vw o k kw:=by
 refine⟨_,kw,h,hg,.refl _,OpOk.pure fun j a w _ Ao _ _ Du=> ?_⟩;have ht:=hT _ _ (af hi);obtain⟨kk,hk,he⟩:=Pv (Ao x Or _ hx);obtain⟨AE,Cs⟩:=jN _ _ _ CJ;by_cases h0:i.size=0
 .have Ei:cs=[]:=List.eq_nil_of_length_eq_zero Fn;subst Ei;refine⟨.agg #[],rfl,?_⟩;simp[execOp,Ab,he,Instr.loadAt,ZR,ZH,loadVar,ht.agg,Bh,ht.size,loadCells,h0,loadCellsFrom]
 have PY:∃c0,vw.fb b=ZA c0:=by
  cases hb:vw.fb b with
  |some c0=>exact⟨c0,rfl⟩
  |none=>exfalso;have h1:0<cs.length:=Fn;have:=Cs 0 cs[0] (Az h1);simp[hb]at this
 obtain⟨c0,IZ⟩:=PY;obtain⟨kk',vs,h1,_,h2,h3⟩:=Du.2 b c0 IZ;rw[hk]at h1;cases h1;have hv:∀m c,cs[m]? =ZA c->∃u,vs[off+m]? =ZA u/\c.den ρ j=ZA u:=fun m c hm=>by have:=Cs m c hm;simp only[IZ,Option.bind_some]at this;exact dH h2 (off+m) c this
 have Lf:Ad ρ j cs=ZA ((vs.drop off).take i.size):=by
  refine lM ?_ (fun m c hm=> ?_)
  .rw[YQ,ZV,AE];obtain⟨u,hu,_⟩:=hv (cs.length-1) cs[cs.length-1] (Az Fn);have:=(bX.1 hu).1;omega
  .obtain⟨u,hu,hd⟩:=hv m c hm;refine⟨u,?_,hd⟩;have Ap:=(bX.1 hm).1;rw[List.getElem?_take,ae Fn,List.getElem?_drop];exact hu
 have hl:=aP Lf;refine⟨_,by simp only[V.den,Lf];rfl,?_⟩;have h4:=dS (P:=P) (a:=⟨kk,off,ZD⟩) (w:=w) ((vs.drop off).take i.size) 0 #[] (fun m u hu=>by
  rw[bw,be];have Ap:m<i.size:=by have:=(bX.1 hu).1;rw[YQ]at this;omega
  rw[List.getElem?_take,ae Ap,List.getElem?_drop]at hu;refine h3 _ u hu ?_;have hc:=Az (show m<cs.length by omega);have hg:=Cs m _ hc;simp only[IZ,Option.bind_some]at hg;unfold jI;rw[bh,hg];exact Co.1 El _ (List.getElem_mem _))
 rw[hl,AE]at h4;simp[execOp,Ab,he,Instr.loadAt,ZR,ZH,loadVar,ht.agg,Bh,ht.size,loadCells,h4]
def uo(hT:∀t i,(t,i)∈cx.ty->TIok P t i)(Ab:o.op=.load t x)(hx:vw.ev x=ZA (.one (.fp b off)))(hi:aj t cx.ty=ZA i)(Bh:¬i.agg=ZB){c:C}(hc:(vw.fb b).bind (·[off]?)=ZA c)(El:c.solid=ZB)(h:(k {val:=.one c} kw).holds sp G ρ I)(hg:Good sp cx.sm ρ kw):Sound P sp ρ G I base cx vw o k kw:=by
 refine⟨_,kw,h,hg,.refl _,OpOk.pure fun j a w _ Ao _ _ Du=> ?_⟩;have ht:=hT _ _ (af hi);obtain⟨kk,hk,he⟩:=Pv (Ao x Or _ hx);rw[cW]at hc;obtain⟨c0,IZ,hc⟩:=hc;obtain⟨kk',vs,h1,_,h2,h3⟩:=Du.2 b c0 IZ;rw[hk]at h1;cases h1;obtain⟨u,hu,hd⟩:=dH h2 off c hc;have C0:i.agg=ZC:=Yl;have h4:=h3 off u hu (by unfold jI;rw[bh,hc];exact El);exact⟨u,hd,by simp[execOp,Ab,he,Instr.loadAt,ZR,ZH,loadVar,ht.agg,C0,load,Sem.run,h4]⟩
def oV{id:Nat}(hs:j.s id=ZA s)(h:(V.one (.ep id Bj e off)).den ρ j=ZA v):∃a,s.a=ZA a/\v=.pointer (ZA (a.add ((e.I ρ).toNat*Bj+off))):=by simp only[V.den,C.den,hs,Option.bind_some,SV.elem,Av]at h;obtain⟨a,ha,rfl⟩:=h;exact⟨a,ha,rfl⟩
def pj(ρ:Env)(j:J)(l e:E)(c:Nat)(k:CE):(Hu l e c k).den ρ j=ZA (fv k (gt (l.R ρ) (e.I ρ) c)):=by cases k<;>simp[Hu,C.den,fv,zK,uT]
def xe{l e:E}:∀{ks:List CE} {c0 m:Nat} {c:C},(eK l e c0 ks)[m]? =ZA c->∃k,ks[m]? =ZA k/\c=Hu l e (c0+m) k
 |[],c0,m,c,h=>by simp[eK]at h
 |k::ks,c0,m,c,h=>by
   cases m with
   |zero=>simp[eK]at h;exact⟨k,rfl,h.symm⟩
   |succ m=>obtain⟨k',h1,h2⟩:=xe (ks:=ks) (c0:=c0+1) (m:=m) (by simpa[eK]using h);exact⟨k',by simpa using h1,by rw[h2];congr 1;omega⟩
def dT(l e:E):∀(ks:List CE) (c0:Nat),(eK l e c0 ks).length=ks.length
 |[],_=>rfl
 |k::ks,c0=>by simp[eK,dT l e ks]
def afT(hT:∀t i,(t,i)∈cx.ty->TIok P t i)(Ab:o.op=.load t x){id:Nat}(hx:vw.ev x=ZA (.one (.ep id Bj e off)))(hi:aj t cx.ty=ZA i)(hr:vw.sw id=ZA r)(Bx:r.ks.length=Bj)(Nm:off+i.size<=Bj)
  (h:(AB (Fo e r.l) (fun b kw=>if b then
      (if i.agg then k {val:=.agg (RH r.l e off ((r.ks.drop off).take i.size)),rr:=[id]} kw
      else match r.ks[off]? with
       |some ck=>k {val:=.one (Hu r.l e off ck),rr:=[id]} kw
       |none=>.stuck 53)
      else .stuck 54) kw).holds sp G ρ I) (hg:Good sp cx.sm ρ kw):Sound P sp ρ G I base cx vw o k kw:=by
 simp only[ahj]at h;obtain⟨Ak,h1,g1,_,l1⟩:=aC _ _ _ h hg;rw[rQ]at h1;have ht:=hT _ _ (af hi);split at h1
 .rename_i hb;simp only[ne,ax]at hb;have cells:∀{j:J} {w:World} {s:SV} {p:Addr},SlOk ρ base w s r->s.a=ZA p->∀c ck,r.ks[c]? =ZA ck->w.cell? (p.add ((e.I ρ).toNat*Bj+c))=ZA (fv ck (gt (r.l.R ρ) (e.I ρ) c)):=by
   intro j w s p Ai hp c ck D9;have:=mX D9 (i:=(e.I ρ).toNat) Ai.rows.row Fn;rw[Bx]at this;exact Ai.rd.2.2.2.2 p hp _ _ this
  split at h1
  .rename_i Bh;refine⟨_,Ak,h1,g1,l1,OpOk.pure fun j a w _ Ao _ A3 _=> ?_⟩;obtain⟨s,hs,Ai⟩:=A3.sl id (by simp) r hr;obtain⟨p,hp,he⟩:=oV hs (Ao x Or _ hx);have Hj:((r.ks.drop off).take i.size).length=i.size:=by rw[YQ,ZV];omega
   have Lf:Ad ρ j (eK r.l e off ((r.ks.drop off).take i.size))=ZA ((List.range i.size).map fun m=>fv ((r.ks[off+m]?).getD ZD) (gt (r.l.R ρ) (e.I ρ) (off+m))):=by
    refine lM (by rw[dT,Hj];simp) (fun m c hm=> ?_);obtain⟨ck,D9,rfl⟩:=xe hm;have Ge:m<i.size:=by have:=(bX.1 D9).1;omega
    rw[List.getElem?_take,ae Ge,List.getElem?_drop]at D9;refine⟨_,?_,pj ρ j _ _ _ _⟩;simp[Ge,D9]
   refine⟨_,by simp only[V.den,Lf];rfl,?_⟩;have h4:=dS (P:=P) (a:=p.add ((e.I ρ).toNat*Bj+off)) (w:=w) ((List.range i.size).map fun m=>fv ((r.ks[off+m]?).getD ZD) (gt (r.l.R ρ) (e.I ρ) (off+m))) 0 #[] (fun m u hu=>by
    rw[be,bC,ZU];have Ge:m<i.size:=by have:=(bX.1 hu).1;simpa using this
    obtain⟨ck,D9⟩:∃ck,r.ks[off+m]? =ZA ck:=⟨_,Az Fn⟩
    have:=cells (j:=j) Ai hp (off+m) ck D9;simp[Ge,D9]at hu;rw[this,hu])
   simp only[List.length_map,List.length_range]at h4;simp[execOp,Ab,he,Instr.loadAt,ZR,ZH,loadVar,ht.agg,Bh,ht.size,loadCells,h4]
  .rename_i Bh;split at h1
   next ck D9=>refine⟨_,Ak,h1,g1,l1,OpOk.pure fun j a w _ Ao _ A3 _=> ?_⟩;obtain⟨s,hs,Ai⟩:=A3.sl id (by simp) r hr;obtain⟨p,hp,he⟩:=oV hs (Ao x Or _ hx);have h4:=cells (j:=j) Ai hp off ck D9;have C0:i.agg=ZC:=Yl;exact⟨_,pj ρ j _ _ _ _,by simp[execOp,Ab,he,Instr.loadAt,ZR,ZH,loadVar,ht.agg,C0,load,Sem.run,h4]⟩
   .exact h1.elim
 .exact h1.elim
def ab2{ty:Nat}(h:w.ownsRow base ty Bj s.v s.n xs){p:Addr}(hp:s.a=ZA p):∃g,p=⟨g,0,ZD⟩/\s.v=.slice (ZA ⟨g,0,ZD⟩) s.n s.c:=by
 rcases h.2 with⟨hv,_⟩|⟨g,Fg,cur,hv,_⟩
 .simp only[SV.v,hp]at hv;cases hv
 .simp only[SV.v,hp,Value.slice.injEq,aU]at hv;exact⟨g,hv.1,by simp only[SV.v,hp,hv.1]⟩
def afH{c:Nat}{k:CE}(hk:ks[c]? =ZA k){x:Int}(hx:CV k x=ZB)(h:RowsIn ks L)(i:Int):RowsIn ks (st L i c x):=by
 refine⟨fun r hr=> ?_,by rw[iA];exact h.len⟩;rcases xC hr with hr|⟨r0,FF,rfl⟩
 .exact h.row r hr
 .exact qu (h.row r0 FF) hk hx
def jM{ty g n Fg:Nat}{e:E}{j:J}{vk:List VK}(hv:Vk ρ vk):∀(ks0:List CE) (cs:List C) (l l':E) (off i0:Nat) (vs:List Value) (w:World) (p:Addr),
  gj vk l e off ks0 cs=ZA l'->Ad ρ j cs=ZA vs->∀ks:List CE,(∀m:Nat,ks0[m]? =ks[off+m]?)->RowsIn ks (l.R ρ)->(e.I ρ).toNat<(l.R ρ).length->w.ownsRow base ty ks.length (.slice (ZA ⟨g,0,ZD⟩) n Fg) n (flat ks (l.R ρ))->(∀m,p.add (i0+m)=⟨g,(e.I ρ).toNat*ks.length+(off+m),ZD⟩)->
  ∃w',(storeCells p vs i0).run P w=.ok () w'/\w'.ownsRow base ty ks.length (.slice (ZA ⟨g,0,ZD⟩) n Fg) n (flat ks (l'.R ρ))/\w.grownBy w' (ZA g)/\RowsIn ks (l'.R ρ)/\(l'.R ρ).length=(l.R ρ).length
 |ks0,[],l,l',off,i0,vs,w,p,hput,hd,ks,BE,AH,hi,AJ,hp=>by
   have e1:l'=l:=by
    unfold gj at hput;cases ks0 with
    |nil=>exact(YL hput).symm
    |cons k ks0=>cases k<;>exact(YL hput).symm
   subst e1;cases hd;exact⟨w,by simp[storeCells],AJ,⟨rfl,rfl,rfl,YJ _,fun _ _ _=>rfl⟩,AH,rfl⟩
 |[],c::cs,l,l',off,i0,vs,w,p,hput,hd,ks,BE,AH,hi,AJ,hp=>by simp[gj]at hput
 |k::ks0,c::cs,l,l',off,i0,vs,w,p,hput,hd,ks,BE,AH,hi,AJ,hp=>by
   simp only[Ad]at hd;cases hc:c.den ρ j with
   |none=>rw[hc]at hd;cases hd
   |some v=>
     cases hl:Ad ρ j cs with
     |none=>rw[hc,hl]at hd;cases hd
     |some us=>
       rw[hc,hl]at hd;cases hd;have hk:ks[off]? =ZA k:=by have:=BE 0;simpa using this.symm
       have hn:(flat ks (l.R ρ)).length=(l.R ρ).length*ks.length:=bt AH.row;have CQ:off<ks.length:=(bX.1 hk).1;have step:∀(x:Int) (l1:E),v=fv k x->CV k x=ZB->l1.R ρ=st (l.R ρ) (e.I ρ) off x->gj vk l1 e (off+1) ks0 cs=ZA l'->
        ∃w',(storeCells p (v::us) i0).run P w=.ok () w'/\w'.ownsRow base ty ks.length (.slice (ZA ⟨g,0,ZD⟩) n Fg) n (flat ks (l'.R ρ))/\w.grownBy w' (ZA g)/\RowsIn ks (l'.R ρ)/\(l'.R ρ).length=(l.R ρ).length:=by
        intro x l1 Nv hx GY Qo;have P4:(flat ks (l.R ρ)).set ((e.I ρ).toNat*ks.length+off) (fv k x)=flat ks (l1.R ρ):=by rw[GY];exact acI hk x AH.row hi
        have Ap:(e.I ρ).toNat*ks.length+off<n*ks.length:=by have h1:=AJ.1;rw[hn]at h1;have h2:((e.I ρ).toNat+1)*ks.length<=(l.R ρ).length*ks.length:=Nat.mul_le_mul_right _ hi;rw[Nat.succ_mul]at h2;omega
        have By:∃u,w.cell? ⟨g,(e.I ρ).toNat*ks.length+off,ZD⟩=ZA u:=by
         have h1:=AJ.cellAt _ Ap;have h2:(e.I ρ).toNat*ks.length+off<(flat ks (l.R ρ)).length:=by rw[AJ.1];exact Ap
         exact⟨_,by rw[h1,Az h2]⟩
        obtain⟨u,hu⟩:=By;have Js:=AJ.frozenAt ((e.I ρ).toNat*ks.length+off);obtain⟨h3,h4⟩:=AJ.stored ((e.I ρ).toNat*ks.length+off) v;rw[Nv,P4]at h3;have I9:=hp 0;simp only[ZP]at I9;have H9:v.oneCell'=ZB:=by rw[Nv];cases k<;>rfl
        obtain⟨w',h5,h6,h7,h8,h9⟩:=jM hv ks0 cs l1 l' (off+1) (i0+1) us (w.setCell ⟨g,(e.I ρ).toNat*ks.length+off,ZD⟩ v) p Qo hl ks (fun m=>by have:=BE (m+1);simpa[ZU,Nat.add_comm 1 m]using this)
         (by rw[GY];exact afH hk hx AH _) (by rw[GY,iA];exact hi) (by rw[Nv];exact h3) (fun m=>by rw[ZU,Nat.add_comm 1 m,hp (m+1)];congr 1;omega)
        refine⟨w',?_,h6,h4.trans h7,h8,by rw[h9,GY,iA]⟩;simp only[storeCells,I9,ZH,run_store P w _ v _ H9,hu,Js,Result.andThen_ok,ZY,dz];exact h5
       cases k with
       |none=>
         cases c<;>simp only[gj]at hput<;>first|cases hput|skip
         rename_i x;have Nv:v=.bool (x.B ρ):=(YL hc).symm;exact step (Ay (x.B ρ)) _ (by rw[Nv];simp only[fv];cases x.B ρ<;>rfl) (UF _) rfl hput
       |some kd=>
         cases c<;>simp only[gj]at hput<;>first|cases hput|skip
         rename_i k' x;split at hput
         next Fk=>simp only[ne]at Fk;have Nv:v=.int k' (x.I ρ):=(YL hc).symm;exact step (x.I ρ) _ (by rw[Nv,av Fk.1];rfl) (E.rng_ok hv x Fk.2) rfl hput
         .cases hput
def adp(hT:∀t i,(t,i)∈cx.ty->TIok P t i)(Ab:o.op=.store t x y){id:Nat}(hx:vw.ev x=ZA (.one (.ep id Bj e off))){v:V}(hy:vw.ev y=ZA v)(hi:aj t cx.ty=ZA i)
   (hr:vw.sw id=ZA r) (Kd:r.own=ZB) (Bx:r.ks.length=Bj) (hf:v.flat=ZB) (hn:v.cells.length=i.size) (Nm:off+i.size<=Bj)
  (h:(AB (Fo e r.l) (fun b kw=>if b then
      (match gj kw.vk r.l e off (r.ks.drop off) v.cells with
       |some l=>k {val:=.one .undef,rr:=[id],re:=.set id {r with l:=l}} kw
       |none=>.stuck 57)
      else .stuck 58) kw).holds sp G ρ I) (hg:Good sp cx.sm ρ kw):Sound P sp ρ G I base cx vw o k kw:=by
 obtain⟨Ak,h1,g1,_,l1⟩:=aC _ _ _ h hg;rw[rQ]at h1;have ht:=hT _ _ (af hi);split at h1
 .rename_i hb;simp only[ne,ax]at hb;split at h1
  .rename_i l hl;refine⟨_,Ak,h1,g1,l1,fun j a w _ Ao A9 BS A3 Du K Q hK=> ?_⟩;obtain⟨s,hs,Ai⟩:=A3.sl id (by simp) r hr;obtain⟨p,hp,he⟩:=oV hs (Ao x Or _ hx);have hd:=V.cells_ok (Ao y Or v hy) hf;have AJ:=Ai.own Kd;obtain⟨g,rfl,IF⟩:=ab2 AJ hp;rw[IF]at AJ;obtain⟨w',h2,h3,h4,h5,h6⟩:=jM (P:=P) g1.vk (r.ks.drop off) v.cells r.l l off 0 _ w ((⟨g,0,ZD⟩:Addr).add ((e.I ρ).toNat*Bj+off)) hl hd r.ks (fun m=>by rw[List.getElem?_drop]) Ai.rows Fn AJ
    (fun m=>by rw[bC,bw,Bx];congr 1;omega)
   have BC:(a.eval y).cells.size=i.size:=by have:=aP hd;rw[Array.length_toList,hn]at this;exact this
   refine rV (w':=w') ?_ (hK _ j w' rfl ⟨rfl,s,hs,?_,RowOk.mk_own (r:={r with l:=l}) (Vw.sw_some hr).2 (by rw[Ai.n];exact h6.symm) h5 Ai.pos (by rw[IF];exact h3),fun e=>by rw[show r.kd=.sl from(Vw.sw_some hr).2]at e;cases e⟩)
   .simp[execOp,Ab,he,Instr.storeAt,ZR,ZH,storeVar,ht.size,BC,h2]
   .rw[IF];exact h4
  .exact h1.elim
 .exact h1.elim
end
section
variable {P:Program}{sp:Spec}{ρ:Env}{G:Env->E->Prop}{I:Nat->List Dt->Prop}{base:Nat}{cx:Cx}{vw:Vw}{o:Oper}{k:Eff->Kw->Tr}
def uw:List Value->Nat->List Value->List Value
 |cs,_,[]=>cs
 |cs,off,v::r=>uw (cs.set off v) (off+1) r
def wE{j:J}:∀{vs:List C} {us:List Value} {cs:List C} {ws:List Value} {off:Nat},Ad ρ j vs=ZA us->Ad ρ j cs=ZA ws->Ad ρ j (setRow cs off vs)=ZA (uw ws off us)
 |[],us,cs,ws,off,h,h'=>by cases h;exact h'
 |v::vs,us,cs,ws,off,h,h'=>by
   simp only[Ad]at h;cases hc:v.den ρ j with
   |none=>rw[hc]at h;cases h
   |some u=>
     cases hl:Ad ρ j vs with
     |none=>rw[hc,hl]at h;cases h
     |some l=>rw[hc,hl]at h;cases h;exact wE (vs:=vs) (us:=l) hl (vq h' off v u hc)
def xU(off:Nat):∀(l:List Value) (m:Nat) (cells:Array Value),((l.zipIdx m).foldl (fun cs (p:Value×Nat)=>cs.setIfInBounds (off+p.2) p.1) cells).toList=uw cells.toList (off+m) l
 |[],m,cells=>rfl
 |v::l,m,cells=>by simp only[List.zipIdx_cons,YT];rw[xU off l (m+1)];simp[uw,ZU]
def qZ{j:J}{pl:Nat->Option (Nat×Nat)}:∀(A0:List (Nat×V)) (cs Gc:List C) (us:List (Nat×Value)) (cells:Array Value),rS pl cs A0=ZA Gc->Ad ρ j cs=ZA cells.toList->(A0.map (·.1)=us.map (·.1))->
  (∀(i:Nat) p u,A0[i]? =ZA p->us[i]? =ZA u->p.2.den ρ j=ZA u.2)->∃Gp,Instr.fill pl cells us=ZA Gp/\Ad ρ j Gc=ZA Gp.toList
 |[],cs,Gc,us,cells,h,hd,hm,hu=>by
   cases us with
   |nil=>cases h;exact⟨cells,rfl,hd⟩
   |cons _ _=>simp at hm
 |(i,v)::A0,cs,Gc,us,cells,h,hd,hm,hu=>by
   cases us with
   |nil=>simp at hm
   |cons u us=>
     obtain⟨i',u⟩:=u;simp only[YR,AY]at hm;obtain⟨rfl,hm⟩:=hm;simp only[rS]at h;split at h
     .rename_i off size hp;split at h
      .rename_i hc;simp only[ne,ax]at hc;obtain⟨h1,h2,h3⟩:=hc;have hv:=hu 0 _ _ rfl rfl;have JU:=V.cells_ok hv h1;have GY:=aP JU;have J5:=aP hd;rw[Ah h2]at GY;simp only[Array.length_toList]at GY J5;have AG:Ad ρ j (setRow cs off v.cells)=ZA ((u.cells.zipIdx.foldl (fun cs (p:Value×Nat)=>cs.setIfInBounds (off+p.2) p.1) cells)).toList:=by
        rw[<-Array.foldl_toList,Array.toList_zipIdx,xU];exact wE JU hd
       obtain⟨Gp,h5,h6⟩:=qZ A0 _ Gc us _ h AG hm (fun i p w OZ hw=>hu (i+1) p w (by simpa using OZ) (by simpa using hw));refine⟨Gp,?_,h6⟩;unfold Instr.fill;have hc1:¬(u.cells.size≠size||decide (off+u.cells.size>cells.size))=ZB:=Xz;simp only[hp];rw[aa hc1];exact h5
      .exact ST
     .exact ST
def RU{ev:Operand->Option V}{j:J}{a:Act}:∀{l:List (Nat×Operand)} {vs:List (Nat×V)},JK ev l=ZA vs->(∀x∈l.map (·.2),∀v,ev x=ZA v->v.den ρ j=ZA (a.eval x))->
  vs.map (·.1)=(l.map fun p=>(p.1,a.eval p.2)).map (·.1)/\∀(i:Nat) p u,vs[i]? =ZA p->(l.map fun p=>(p.1,a.eval p.2))[i]? =ZA u->p.2.den ρ j=ZA u.2
 |[],vs,h,Ao=>by cases h;exact⟨rfl,fun i p u hp=>by simp at hp⟩
 |(n,x)::l,vs,h,Ao=>by
   simp only[JK]at h;cases hc:ev x with
   |none=>rw[hc]at h;cases h
   |some v=>
     cases hl:JK ev l with
     |none=>rw[hc,hl]at h;cases h
     |some us=>
       rw[hc,hl]at h;cases h;obtain⟨h1,h2⟩:=RU (a:=a) (j:=j) hl (fun y hy=>Ao y (cm _ hy));refine⟨by simp[h1],fun i p u hp hu=> ?_⟩;cases i with
       |zero=>simp at hp hu;subst hp hu;exact Ao x bG v hc
       |succ i=>exact h2 i p u (by simpa using hp) XW
def pp(z:Array Value)(n:Nat):(madeCells z (n*z.size)).toList=(YK n z.toList).flatten:=by
 have hf:(madeCells z (n*z.size)).toList=(List.range (n*z.size)).map (fun i=>z[i % z.size]!):=by simp[madeCells]
 rw[hf];clear hf
 induction n with
 |zero=>simp
 |succ n ih=>
   rw[Nat.succ_mul,List.range_add,List.map_append,ih,List.replicate_succ',List.flatten_concat];congr 1;apply List.ext_getElem?;intro i;by_cases hi:i<z.size
   .have:(n*z.size+i) % z.size=i:=by rw[Nat.add_comm,Nat.add_mul_mod_self_right,Nat.mod_eq_of_lt hi]
    simp[hi,this]
   .simp[hi]
def uH{j:J}{vk:List VK}(hv:Vk ρ vk):∀{ks:List CE} {cs:List C} {r:E} {vs:List Value},cs.all (C.rng vk)=ZB->Ow ks cs=ZA r->Ad ρ j cs=ZA vs->vs=Ax ks (r.L ρ)/\aq ks (r.L ρ)=ZB
 |[],[],r,vs,_,h,hd=>by cases h;cases hd;exact⟨rfl,rfl⟩
 |some k::ks,.int k' x::cs,r,vs,hr,h,hd=>by
   simp only[Ow]at h;simp only[YV,ne]at hr;split at h
   .rename_i hk;rw[Av]at h;obtain⟨t,ht,rfl⟩:=h;simp only[Ad,C.den]at hd;cases hl:Ad ρ j cs with
    |none=>rw[hl]at hd;cases hd
    |some us=>rw[hl]at hd;cases hd;obtain⟨h1,h2⟩:=uH hv hr.2 ht hl;refine⟨by simp only[E.L,Ax,fv];rw[h1,av hk],?_⟩;simp only[E.L,aq,CV,ne];exact⟨E.rng_ok hv x (by have h9:x.rng vk k'=ZB:=hr.1;rw[av hk]at h9;exact h9),h2⟩
   .exact ST
 |none::ks,.bool x::cs,r,vs,hr,h,hd=>by
   simp only[YV,ne]at hr;simp only[Ow,Av]at h;obtain⟨t,ht,rfl⟩:=h;simp only[Ad,C.den]at hd;cases hl:Ad ρ j cs with
   |none=>rw[hl]at hd;cases hd
   |some us=>rw[hl]at hd;cases hd;obtain⟨h1,h2⟩:=uH hv hr.2 ht hl;refine⟨by simp only[E.L,Ax,fv];rw[h1];congr 2;cases x.B ρ<;>rfl,?_⟩;simp only[E.L,aq,ne];exact⟨UF _,h2⟩
def jP(hv:Vk ρ vk){r:E}{vs:List Value}(h:D3 vk ks cs=ZA r)(hd:Ad ρ j cs=ZA vs):vs=Ax ks (r.L ρ)/\aq ks (r.L ρ)=ZB:=by
 unfold D3 at h;cases hr:Fx vk cs vk 0 with
 |false=>rw[hr]at h;cases h
 |true=>rw[hr]at h;exact uH hv (rngs_ok cs vk 0 rfl hr) h hd
def abJ{j:J}{vk:List VK}(hv:Vk ρ vk){ks:List CE}:∀(n:Nat) {cs:List C} {l:E} {vs:List Value},Ov vk ks n cs=ZA l->Ad ρ j cs=ZA vs->vs=flat ks (l.R ρ)/\(l.R ρ).length=n/\∀r∈l.R ρ,aq ks r=ZB
 |0,[],l,vs,h,hd=>by cases h;cases hd;exact⟨rfl,rfl,fun r hr=>by cases hr⟩
 |0,_::_,l,vs,h,hd=>by simp[Ov]at h
 |n+1,cs,l,vs,h,hd=>by
   simp only[Ov]at h;split at h
   .rename_i r l' hr hl;cases h;obtain⟨h1,h2⟩:=jP hv hr (ng hd _);obtain⟨h3,h4,h5⟩:=abJ hv n hl (kg hd _);rw[ajh,cr,<-h1,<-h3];refine⟨by rw[List.take_append_drop],by simp[h4],fun x hx=> ?_⟩;rcases ZN.1 hx with rfl|hx
    .exact h2
    .exact h5 x hx
   .exact ST
def zS:CO ks≠.tab:=by rcases cK ks with⟨_,h⟩|⟨_,h⟩<;>rw[h]<;>simp
def Ext.of_grown(h:w.grownBy w' ZD):Ext w w':=Below.grown (Ext.refl w) h (YJ _) (fun k hk=>by cases hk)
def kY{v:V}(hx:Ext w w')(hr:RowOk ρ w.heap.size w' u r)(ho:r.own=ZB){eff:Eff}(he:eff={val:=v,rd:=eff.rd,rr:=eff.rr,re:=.mk [r]})(hz:u.z=[]:=by first|rfl|assumption)(ht:r.kd=.tab->∀jj,TbAt ρ jj w' u r:=by first|(intro h;cases h;done)|(intro h;exact ak h zS)):Mn ρ base nid eff j w (j.putL nid [u]) w':=by
 rw[he];refine⟨hx,[u],rfl,fun i u' r' h1 h2=> ?_,fun i i' u1 u2 k h1 h2 _ _=> ?_,fun u' Ib=>NewZ.nil (by rw[cV.1 Ib];exact hz),by simp[hz,J.addzs]⟩
 .cases i with
  |zero=>simp at h1 h2;subst h1 h2;exact⟨hr,ho,ht⟩
  |succ i=>simp at h1
 .cases i with
  |zero=>
    cases i' with
    |zero=>rfl
    |succ i'=>simp at h2
  |succ i=>simp at h1
def RP:(V.one (.sl nid)).den ρ (j.putL nid [u])=ZA u.v:=by simp[V.den,C.den,J.putL]
def aga:(V.one (.sl nid)).den ρ (j.putS nid u)=ZA u.v:=by simp[V.den,C.den,J.putS]
def rL(hT:∀t i,(t,i)∈cx.ty->TIok P t i)(Ab:o.op=.buildSlice t n ps)(Gf:JK vw.ev ps.toList=ZA A0)(hi:aj t cx.ty=ZA i)(ha:i.sle=ZA et)(AZ:aj et cx.ty=ZA ie)(Eg:rS (fun m=>ZA (m*ie.size,ie.size)) ((YK n ie.zero).flatten) A0=ZA cs)(hl:Ov kw.vk ks n cs=ZA l)(hq:n*ie.size<=16777216/\0<ie.size/\ks.length=ie.size)(h:(k {val:=.one (.sl vw.nid),re:=.mk [⟨ks,et,l,ZB,.sl⟩]} kw).holds sp G ρ I)(hg:Good sp cx.sm ρ kw):Sound P sp ρ G I base cx vw o k kw:=by
 refine⟨_,kw,h,hg,.refl _,fun j a w hb Ao A9 BS A3 Du K Q hK=> ?_⟩;obtain⟨h1,h2⟩:=RU (a:=a) (j:=j) Gf (fun x hx=>Ao x (by
  simp only[Ab,Op.operands];simpa using hx))
 have h3:(ps.map fun p=>(p.1,a.eval p.2)).toList=ps.toList.map fun p=>(p.1,a.eval p.2):=Array.toList_map ..;have hx:execOp a.eval o=(do let v <-Instr.buildSlice t n (ps.map fun p=>(p.1,a.eval p.2));pure (.value v)):=by simp only[execOp,Ab]
 have hu:=(hT _ _ (af hi)).sle et ha;have Nt:=hT _ _ (af AZ);have BC:=Nt.size;obtain⟨Cv,z,Ct,B5,_,hz,HI,Hp⟩:=Nt.info;have IG:z.cells.size=ie.size:=by simpa using HI
 have zer:Ad ρ j ((YK n ie.zero).flatten)=ZA (madeCells z.cells (n*ie.size)).toList:=by
  rw[<-IG,pp];have:∀n,Ad ρ j ((YK n ie.zero).flatten)=ZA ((YK n z.cells.toList).flatten):=by
   intro n
   induction n with
   |zero=>rfl
   |succ n ih=>simp only[List.replicate_succ,List.flatten_cons];exact eU (Hp ρ j) ih
  exact this n
 obtain⟨cells,h4,h5⟩:=qZ (j:=j) A0 _ cs _ (madeCells z.cells (n*ie.size)) Eg zer h1 h2;obtain⟨h6,h7,h8⟩:=abJ hg.vk n hl h5;have GC:n<=maxLen:=by have:n*1<=n*ie.size:=Nat.mul_le_mul_left n hq.2.1;simp only[maxLen];omega
 have CJ:cells.size=n*ks.length:=by have:=congrArg List.length h6;rw[bt h8,h7]at this;simpa using this
 have own:=World.ownsRow_lit (base:=w.heap.size) (e:=et) (size:=ks.length) w cells n (YJ _) GC CJ;rw[h6]at own;refine cf (w':=w.alloc (.cells cells et)) (v:=(⟨ZA ⟨w.heap.size,0,ZD⟩,n,n,[]⟩:SV).v) ?_ (hK _ (j.putL vw.nid [⟨ZA ⟨w.heap.size,0,ZD⟩,n,n,[]⟩]) _ RP (kY (Ext.of_grown (World.grownBy_alloc w _ ZD)) (RowOk.mk_own rfl h7.symm ⟨h8,by rw[h7];exact GC⟩ (by simp only;omega) own) rfl rfl));rw[hx];have DP:¬(16777216<n*ie.size):=Fn;by_cases OX:n*ie.size=0
 .have hn:n=0:=by
   rcases Nat.mul_eq_zero.1 OX with h|h
   .exact h
   .exact Fn
  subst hn;have PQ:Instr.fill (fun m=>ZA (m*ie.size,ie.size)) #[] (ps.toList.map fun p=>(p.1,a.eval p.2))=ZA cells:=by rw[<-h4];congr 1;simp[madeCells]
  simp[Instr.buildSlice,ZH,run_underlying hu,BC,h3,Array.range_zero',PQ,newRow,SV.v]
 .simp only[madeCells]at h4;simp[Instr.buildSlice,ZH,run_underlying hu,BC,h3,DP,OX,zeroValue,typeInfo,Ct,hz,h4,newRow,SV.v]
def uk(hT:∀t i,(t,i)∈cx.ty->TIok P t i)(Ab:o.op=.makeSlice t x y){k1 k2:IntKind}{e':E}(hx:vw.ev x=ZA (.one (.int k1 e)))(hy:vw.ev y=ZA (.one (.int k2 e')))(hi:aj t cx.ty=ZA i)(ha:i.sle=ZA et)(AZ:aj et cx.ty=ZA ie)
   {r:E} (hr:D3 kw.vk ks ie.zero=ZA r) (hq:e.same e'=ZB/\0<ie.size/\ks.length=ie.size/\ie.bytes<=65536)
  (h:(AB (A8 e (.p 0)) (fun b kw=>if b then .panic else AB (A8 e (.p DW)) (fun b kw=>if b then
         k {val:=.one (.sl vw.nid),re:=.mk [⟨ks,et,.lrep e r,ZB,.sl⟩]} kw else .panic) kw) kw).holds sp G ρ I) (hg:Good sp cx.sm ρ kw):Sound P sp ρ G I base cx vw o k kw:=by
 have Qx:=hg.vk;obtain⟨Bn,h1,g1,_,l1⟩:=aC _ _ _ h hg;rw[cC]at h1;split at h1
 .exact h1.elim
 rename_i hneg;obtain⟨Dd,h2,g2,_,l2⟩:=aC _ _ _ h1 g1;rw[cC]at h2;split at h2
 .rename_i DP;have Qi:0<=e.I ρ:=by
   have h3:¬e.I ρ<0:=Af (Bool.eq_false_iff.2 hneg);omega
  have JS:e.I ρ<1073741824:=Ae DP;have hes:=E.same_eq hq.1;rw[<-hes]at hy;refine⟨_,Dd,h2,g2,l2.trans l1,fun j a w hb Ao A9 BS A3 Du K Q hK=> ?_⟩;have H3:=bS (Ao x Or _ hx);have KJ:=bS (Ao y Or _ hy);have hu:=(hT _ _ (af hi)).sle et ha;have Nt:=hT _ _ (af AZ);obtain⟨Cv,z,Ct,B5,Ez,hz,HI,Hp⟩:=Nt.info;obtain⟨h6,h7⟩:=jP Qx hr (Hp ρ j);have hN:((e.I ρ).toNat:Int)=e.I ρ:=Int.toNat_of_nonneg Qi;have Ap:(e.I ρ).toNat<1073741824:=Fn;have GC:(e.I ρ).toNat<=maxLen:=X8;have LJ:Cv.bytes*(e.I ρ).toNat<=281474976710656:=by have:Cv.bytes*(e.I ρ).toNat<=65536*1073741824:=Nat.mul_le_mul Fn Fn;omega
  obtain⟨w',h3,h4,h5⟩:=run_make_full (P:=P) w w.heap.size t et Cv z ie.size hu Ct hz B5 k1 k2 (e.I ρ).toNat LJ GC (YJ _);have IG:z.cells.size=ie.size:=by simpa using HI
  have Hh:(madeCells z.cells ((e.I ρ).toNat*ie.size)).toList=flat ks ((E.lrep e r).R ρ):=by rw[<-IG,pp,h6];simp[E.R,flat,List.flatMap_replicate]
  rw[Hh,<-hq.2.2.1]at h4;have AE:((E.lrep e r).R ρ).length=(e.I ρ).toNat:=by simp[E.R]
  refine cf (w':=w') (v:=(⟨ZA ⟨w.heap.size,0,ZD⟩,(e.I ρ).toNat,(e.I ρ).toNat,[]⟩:SV).v) ?_ (hK _ (j.putL vw.nid [⟨ZA ⟨w.heap.size,0,ZD⟩,(e.I ρ).toNat,(e.I ρ).toNat,[]⟩]) _ RP (kY (Ext.of_grown h5) (RowOk.mk_own rfl AE.symm ⟨fun x hx=> ?_,by rw[AE];exact GC⟩ (by simp only;omega) h4) rfl rfl))
  .rw[hN]at h3;simp[execOp,Ab,H3,KJ,h3,SV.v,ZH]
  .simp only[E.R,List.mem_replicate]at hx;rw[hx.2];exact h7
 .exact h2.elim
end
section
variable {P:Program}{sp:Spec}{ρ:Env}{G:Env->E->Prop}{I:Nat->List Dt->Prop}{base:Nat}{cx:Cx}{vw:Vw}{o:Oper}{k:Eff->Kw->Tr}
def oS{id:Nat}(hs:j.s id=ZA s)(h:(V.one (.sl id)).den ρ j=ZA v):v=s.v:=by simp only[V.den,C.den,hs,ZK,aU]at h;exact h.symm
def xw(h:(V.one .nsl).den ρ j=ZA v):v=.slice ZD 0 0:=(YL h).symm
def wX(hu:P.underlying t=ZA (.slice et))(hs:(sizeOf et).run P w=.ok Bj w)(s:SV)(l h:Nat)(low high:Option Value)(hl:(low=ZD/\l=0)\/∃kd:IntKind,low=ZA (.int kd (l:Int)))(hh:(high=ZD/\h=s.n)\/∃kd:IntKind,high=ZA (.int kd (h:Int)))(h1:l<=h)(h2:h<=s.n)(h3:s.n<=s.c):
  (Instr.sliceAt t s.v low high ZD).run P w=.ok (⟨if s.c=l then s.a else s.a.map (·.add (l*Bj)),h-l,s.c-l,[]⟩:SV).v w:=by
 have sb:∀(kd:IntKind) (m y:Nat) code,m<=y->(Instr.sliceBound (.int kd (m:Int)) y code).run P w=.ok m w:=fun kd m y code Qg=>by have h5:(m:Int)<=(y:Int):=Fn;simp[Instr.sliceBound,asIntOf,ZH,Qg]
 have b1:(YX ZB s.n s.c low high ZD).run P w=.ok (l,h,s.c) w:=by
  rcases hl with⟨rfl,rfl⟩|⟨kd,rfl⟩<;>rcases hh with⟨rfl,rfl⟩|⟨Hs,rfl⟩
  .exact Ye
  .simp[YX,ZH,sb Hs h s.c _ Fn]
  .simp[YX,ZH,sb kd l s.n _ Fn]
  .simp[YX,ZH,sb kd l h _ Fn,sb Hs h s.c _ Fn]
 simp[Instr.sliceAt,Instr.slice,SV.v,run_underlying hu,ZH,b1,hs]
def yd{l:Nat}:∀k,(⟨if s.c=l then s.a else s.a.map (·.add (l*Bj)),h-l,s.c-l,[]⟩:SV).blk ZC=ZA k->s.blk ZC=ZA k:=by
 intro k hk;have hc:s.c≠0:=fun hc=>by unfold SV.blk at hk;simp[hc]at hk
 refine nm hc ?_;have hk:=ay hk;obtain⟨a,n,c,z⟩:=s;simp only[SV.v]at hk ⊢;split at hk
 .cases a<;>simp_all [Value.ownBlock]
 .cases a with
  |none=>simp[Value.ownBlock]at hk
  |some a=>simp only[ZK,Value.ownBlock,aU]at hk ⊢;rw[<-hk];unfold Addr.add;split<;>rfl
def ar1{l:Nat}(Ai:SlOk ρ base w s r)(hq:q.ks=r.ks/\q.own=ZC)(hL:q.l.R ρ=((r.l.R ρ).take h).drop l)(h1:l<=h)(h2:h<=s.n):
  SlOk ρ base w ⟨if s.c=l then s.a else s.a.map (·.add (l*r.ks.length)),h-l,s.c-l,[]⟩ q:=by
 obtain⟨r1,r2,r3,r4,r5⟩:=Ai.rd;have hn:=Ai.n;have AE:(q.l.R ρ).length=h-l:=by rw[hL,ZV,YQ];omega
 have AH:∀x∈q.l.R ρ,aq r.ks x=ZB:=fun x hx=>Ai.rows.row x (by rw[hL]at hx;exact List.mem_of_mem_take (List.mem_of_mem_drop hx));refine⟨AE.symm,⟨by rw[hq.1];exact AH,by rw[AE];omega⟩,by rw[hq.1];exact Ai.pos,fun k hk=> ?_,fun ho=>(by rw[hq.2]at ho;cases ho),?_⟩
 .rw[hq.2]at hk;exact Ai.lt k (bI (yd k hk))
 .rw[hq.1];have E6:flat r.ks (q.l.R ρ)=((flat r.ks (r.l.R ρ)).take (h*r.ks.length)).drop (l*r.ks.length):=by
   rw[mW h Ai.rows.row,mY l (fun x hx=>Ai.rows.row x (List.mem_of_mem_take hx)),hL]
  refine⟨by rw[bt AH,AE],by simp only;omega,by simp only;omega,fun ha=> ?_,fun a ha i u hi=> ?_⟩
  .simp only at ha ⊢;split at ha
   .have:=r4 ha;omega
   .rw[Option.map_eq_none_iff]at ha;have:=r4 ha;omega
  .simp only at ha;have Ap:i<(flat r.ks (q.l.R ρ)).length:=(bX.1 hi).1;rw[bt AH,AE]at Ap;split at ha
   next hc=>have:h-l=0:=Fn;rw[this]at Ap;omega
   .rw[Av]at ha;obtain⟨a0,K4,rfl⟩:=ha;rw[bC];refine r5 a0 K4 _ u ?_;rw[E6,List.getElem?_drop,List.getElem?_take]at hi;split at hi
    .exact hi
    .cases hi
def SlOk.shut(h:SlOk ρ base w s r):SlOk ρ base w s {r with own:=ZC}:=⟨h.n,h.rows,h.pos,fun k hk=>h.lt k (bI hk),fun ho=>(by cases ho),h.rd⟩
def ap1(hT:∀t i,(t,i)∈cx.ty->TIok P t i){lo:Option Operand}(Ab:o.op=.slice t x lo A6 ZD){id:Nat}(hx:vw.ev x=ZA (.one (.sl id)))(hi:aj t cx.ty=ZA i)(ha:i.sle=ZA et)(AZ:aj et cx.ty=ZA ie)(hr:vw.sw id=ZA r)(Bx:r.ks.length=ie.size){L H:Nat}(I6:(lo=ZD/\L=0)\/∃y kd e,lo=ZA y/\vw.ev y=ZA (.one (.int kd e))/\e.I ρ=(L:Int))(I4:(A6=ZD/\H=(r.l.R ρ).length)\/∃y kd e,A6=ZA y/\vw.ev y=ZA (.one (.int kd e))/\e.I ρ=(H:Int)){l':E}(B0:l'.R ρ=((r.l.R ρ).take H).drop L)(hLH:L<=H/\H<=(r.l.R ρ).length)(h:(k {val:=.one (.sl vw.nid),rr:=[id],re:=.view id {r with own:=ZC} ⟨r.ks,et,l',ZC,.sl⟩} kw).holds sp G ρ I)(hg:Good sp cx.sm ρ kw):Sound P sp ρ G I base cx vw o k kw:=by
 refine⟨_,kw,h,hg,.refl _,fun j a w hbw Ao A9 BS A3 Du K Q hK=> ?_⟩;obtain⟨s,hs,Ai⟩:=A3.sl id (by simp) r hr;have hd:=oS hs (Ao x Or _ hx);have hu:=(hT _ _ (af hi)).sle et ha;have BC:=(hT _ _ (af AZ)).size w;rw[<-Bx]at BC;have hn:=Ai.n;have GY:(lo.map a.eval=ZD/\L=0)\/∃kd:IntKind,lo.map a.eval=ZA (.int kd (L:Int)):=by
  rcases I6 with⟨rfl,h0⟩|⟨y,kd,e,rfl,hy,he⟩
  .exact .inl ⟨rfl,h0⟩
  .exact .inr ⟨kd,by rw[ZK,bS (Ao y Or _ hy),he]⟩
 have P5:(A6.map a.eval=ZD/\H=s.n)\/∃kd:IntKind,A6.map a.eval=ZA (.int kd (H:Int)):=by
  rcases I4 with⟨rfl,h0⟩|⟨y,kd,e,rfl,hy,he⟩
  .exact .inl ⟨rfl,by rw[h0,hn]⟩
  .exact .inr ⟨kd,by rw[ZK,bS (Ao y Or _ hy),he]⟩
 have Be:=wX (P:=P) hu BC s L H _ _ GY P5 hLH.1 Fn Ai.rd.2.1;refine cf (w':=w) (v:=(⟨if s.c=L then s.a else s.a.map (·.add (L*r.ks.length)),H-L,s.c-L,[]⟩:SV).v) ?_ (hK _ (j.putS vw.nid ⟨if s.c=L then s.a else s.a.map (·.add (L*r.ks.length)),H-L,s.c-L,[]⟩) w aga ⟨rfl,s,_,hs,Ai.shut.row (Vw.sw_some hr).2,(ar1 (q:=⟨r.ks,et,l',ZC,.sl⟩) Ai ⟨rfl,rfl⟩ B0 hLH.1 Fn).row rfl,yd,Zin.nil rfl,rfl,(fun e=>by rw[show r.kd=.sl from(Vw.sw_some hr).2]at e;cases e),(fun e=>by cases e)⟩);simp only[execOp,Ab,hd,Option.map_none,ZH,Be,Result.andThen_ok,Sem.run_pure]
def oc(hl:(l.R ρ).length<=maxLen):(D1 kw.vk l).I ρ=((l.R ρ).length:Int):=by
 have h:=bO ρ l;unfold D1;split
 next z hz=>rw[hz]at h;exact h
 .rename_i e Bg;split
  .exact h
  .show IntKind.i64.wrap _=_;rw[h];refine pN ?_;rw[bl];simp only[maxLen]at hl;simp only[IntKind.min,IntKind.max,IntKind.signed,IntKind.bits];simp;omega
def ap0(hT:∀t i,(t,i)∈cx.ty->TIok P t i)(Ab:o.op=.call c)(hc:c.callee=.builtin .len){id:Nat}(hl:DM vw.ev c.args.toList=ZA [.one (.sl id)])(Ci:c.argTypes.toList=[t])(hi:aj t cx.ty=ZA i)(E0:i.sle.isSome=ZB)(hr:vw.sw id=ZA r)(h:(k {val:=.one (.int .i64 (D1 kw.vk r.l)),rr:=[id]} kw).holds sp G ρ I)(hg:Good sp cx.sm ρ kw):Sound P sp ρ G I base cx vw o k kw:=by
 refine⟨_,kw,h,hg,.refl _,OpOk.pure fun j a w _ Ao _ A3 _=> ?_⟩;obtain⟨s,hs,Ai⟩:=A3.sl id (by simp) r hr;obtain⟨h1,h2⟩:=iF (j:=j) (a:=a) hl (fun x hx=>Ao x Xn);have h3:c.args.map a.eval = #[s.v]:=by
  have:c.args.toList.map a.eval=[s.v]:=by
   match hm:c.args.toList.map a.eval,h2 with
   |[u],_=>rw[hm]at h1;rw[oS hs (h1 0 _ u rfl rfl)]
  rw[<-Array.toArray_toList (xs:=c.args.map a.eval),Array.toList_map,this]
 obtain⟨et,J1⟩:=Option.isSome_iff_exists.1 E0;have hu:=(hT _ _ (af hi)).sle et J1;have CU:c.argTypes = #[t]:=Xs;have GB:(r.l.R ρ).length<=maxLen:=Ai.rows.len;refine⟨.int .i64 (s.n:Int),by rw[Ai.n];simp[V.den,C.den,oc GB],?_⟩;simp[execOp,Ab,resolve,hc,h3,CU,ZH,invoke,builtin,Builtin.len_,run_underlying hu,SV.v,goInt]
def akM(hT:∀t i,(t,i)∈cx.ty->TIok P t i)(Ab:o.op=.call c)(hc:c.callee=.builtin .len)(hl:DM vw.ev c.args.toList=ZA [.one .nsl])(Ci:c.argTypes.toList=[t])(hi:aj t cx.ty=ZA i)(E0:i.sle.isSome=ZB)(h:(k {val:=.one (.int .i64 (.p 0))} kw).holds sp G ρ I)(hg:Good sp cx.sm ρ kw):Sound P sp ρ G I base cx vw o k kw:=by
 refine⟨_,kw,h,hg,.refl _,OpOk.pure fun j a w _ Ao _ A3 _=> ?_⟩;obtain⟨h1,h2⟩:=iF (j:=j) (a:=a) hl (fun x hx=>Ao x Xn);have h3:c.args.map a.eval = #[.slice ZD 0 0]:=by
  have:c.args.toList.map a.eval=[.slice ZD 0 0]:=by
   match hm:c.args.toList.map a.eval,h2 with
   |[u],_=>rw[hm]at h1;rw[xw (h1 0 _ u rfl rfl)]
  rw[<-Array.toArray_toList (xs:=c.args.map a.eval),Array.toList_map,this]
 obtain⟨et,J1⟩:=Option.isSome_iff_exists.1 E0;have hu:=(hT _ _ (af hi)).sle et J1;have CU:c.argTypes = #[t]:=Xs;refine⟨.int .i64 0,rfl,?_⟩;simp[execOp,Ab,resolve,hc,h3,CU,ZH,invoke,builtin,Builtin.len_,run_underlying hu,goInt]
def ann{ty:Nat}(h:w.ownsRow base ty Bj v n xs):∃s:SV,v=s.v/\s.n=n/\s.z=[]:=by
 rcases h.2 with⟨rfl,rfl⟩|⟨g,Fg,cur,rfl,_⟩
 .exact⟨⟨ZD,0,0,[]⟩,rfl,rfl,rfl⟩
 .exact⟨⟨ZA ⟨g,0,ZD⟩,n,Fg,[]⟩,rfl,rfl,rfl⟩
def eB{ty e:Nat}{Cv:TypeInfo}{z:Value}(ht:P.underlying t=ZA (.slice e))(hi:P.info? e=ZA Cv)(hz:Cv.zero=ZA z)(IG:z.cells.size=Cv.size)(BC:0<Cv.size)(AJ:w.ownsRow base e Cv.size v n xs)
  {x:SV} {FY:List Value} (A9:RdRow w Cv.size x FY) (h1:∀u∈FY,u.oneCell'=ZB) (h63:n+x.n<=maxLen) (Ez:(n+x.n)*Cv.bytes<=140737488355328) (CP:base<=w.heap.size):
  ∃s' w',(Builtin.append_ #[t,t] ty #[v,x.v]).run P w=.ok (SV.v s') w'/\s'.n=n+x.n/\w'.ownsRow base e Cv.size s'.v (n+x.n) (xs++FY)/\w.grownBy w' v.ownBlock/\(s'.v.ownBlock=v.ownBlock\/s'.v.ownBlock=ZA w.heap.size)/\s'.z=[]:=by
 obtain⟨xa,xn,xc,xz⟩:=x;cases xa with
 |none=>
   obtain⟨h2,h3⟩:=A9.2.2.2.1 rfl;simp only at h2 h3;subst h2 h3;have Ei:FY=[]:=by have:=A9.1;simp only[Nat.zero_mul]at this;exact List.eq_nil_of_length_eq_zero this
   subst Ei;obtain⟨s,rfl,hn,BC⟩:=ann AJ;exact⟨s,w,run_append_owned_none w base t ty e Cv Cv.size ht hi _ n xs AJ,hn,by simpa using AJ,⟨rfl,rfl,rfl,YJ _,fun _ _ _=>rfl⟩,.inl rfl,BC⟩
 |some a=>obtain⟨v',w',hr,h2,h3,_,h5⟩:=run_append_own_at (P:=P) w base t ty e Cv z Cv.size Cv.bytes ht hi hz rfl rfl IG BC v n xs AJ a xn xc FY A9.1 (fun j u hj=>A9.2.2.2.2 a rfl j u hj) h1 h63 Ez CP;obtain⟨s,rfl,hn,BC⟩:=ann h2;exact⟨s,w',hr,hn,h2,h3,h5,BC⟩
def My{v1 v2:V}(hl:DM vw.ev c.args.toList=ZA [v1,v2])(Ao:∀x∈c.args.toList,∀v,vw.ev x=ZA v->v.den ρ j=ZA (a.eval x)):∃u1 u2,c.args.map a.eval = #[u1,u2]/\v1.den ρ j=ZA u1/\v2.den ρ j=ZA u2:=by
 obtain⟨h1,h2⟩:=iF (j:=j) (a:=a) hl Ao
 match hm:c.args.toList.map a.eval,h2 with
 |[u1,u2],_=>rw[hm]at h1;exact⟨u1,u2,by rw[<-Array.toArray_toList (xs:=c.args.map a.eval),Array.toList_map,hm],h1 0 _ u1 rfl rfl,h1 1 _ u2 rfl rfl⟩
def aod(ρ:Env)(a b:E):(DK a b).R ρ=a.R ρ++b.R ρ:=by
 unfold DK;split
 .simp[E.R]
 .split<;>simp[E.R]
def zd(hT:∀t i,(t,i)∈cx.ty->TIok P t i)(Ab:o.op=.call c)(hc:c.callee=.builtin .append){id:Nat}(hl:DM vw.ev c.args.toList=ZA [.one .nsl,.one (.sl id)])(Ci:c.argTypes.toList=[t,t])(hi:aj t cx.ty=ZA i)(ha:i.sle=ZA et)(AZ:aj et cx.ty=ZA ie)(hr:vw.sw id=ZA r)(hq:r.ty=et/\r.ks.length=ie.size/\0<ie.size/\ie.bytes<=65536)(h:(AB (A8 (bY r.l) (.p DW)) (fun b kw=>if b then k {val:=.one (.sl vw.nid),rr:=[id],re:=.mk [⟨r.ks,et,r.l,ZB,.sl⟩]} kw else .panic) kw).holds sp G ρ I)(hg:Good sp cx.sm ρ kw):Sound P sp ρ G I base cx vw o k kw:=by
 obtain⟨Bn,h1,g1,_,l1⟩:=aC _ _ _ h hg;rw[cC,bO]at h1;split at h1
 .rename_i DP;have JS:((r.l.R ρ).length:Int)<1073741824:=Ae DP;refine⟨_,Bn,h1,g1,l1,fun j a w hb Ao A9 BS A3 Du K Q hK=> ?_⟩;obtain⟨s,hs,Ai⟩:=A3.sl id (by simp) r hr;obtain⟨u1,u2,BD,HC,E5⟩:=My (j:=j) (a:=a) hl (fun x hx=>Ao x Xn);have e1:=xw HC;have e2:=oS hs E5;subst e1 e2;have hu:=(hT _ _ (af hi)).sle et ha;obtain⟨Cv,z,Ct,B5,Ez,hz,HI,Hp⟩:=(hT _ _ (af AZ)).info;have CU:c.argTypes = #[t,t]:=Xs;have hn:=Ai.n;have Dv:=Ai.rd;rw[hq.2.1,<-B5]at Dv;obtain⟨s',w',h2,h3,h4,h5,h6,h7⟩:=eB (P:=P) (base:=w.heap.size) (ty:=o.type) hu Ct hz Yv Fn (World.ownsRow_nil w w.heap.size et Cv.size) Dv px X8
   (by
    have:(0+s.n)*Cv.bytes<=1073741824*65536:=Nat.mul_le_mul Fn Fn;omega) (YJ _)
  simp only[be,ZM]at h3 h4;rw[B5,<-hq.2.1,<-h3]at h4;refine cf (w':=w') (v:=s'.v) ?_ (hK _ (j.putL vw.nid [s']) _ RP (kY (Ext.of_grown h5) (RowOk.mk_own (r:=⟨r.ks,et,r.l,ZB,.sl⟩) rfl (by rw[h3];exact hn) Ai.rows Ai.pos h4) rfl rfl));simp only[execOp,Ab,resolve,hc,BD,CU,ZH,Sem.run_pure,Result.andThen_ok,invoke,builtin,h2]
 .exact h1.elim
def adw(hT:∀t i,(t,i)∈cx.ty->TIok P t i)(Ab:o.op=.call c)(hc:c.callee=.builtin .append){old id:Nat}(hl:DM vw.ev c.args.toList=ZA [.one (.sl old),.one (.sl id)])(Ci:c.argTypes.toList=[t,t])(hi:aj t cx.ty=ZA i)(ha:i.sle=ZA et)(AZ:aj et cx.ty=ZA ie)(hr:vw.sw id=ZA r)(Ke:vw.sw old=ZA q)(hq:r.ty=et/\r.ks.length=ie.size/\0<ie.size/\ie.bytes<=65536)(E8:q.own=ZB/\q.ty=et/\q.ks=r.ks)(h:(AB (ic (A8 (bY q.l) (.p DW)) (A8 (bY r.l) (.p DW))) (fun b kw=>if b then k {val:=.one (.sl vw.nid),rr:=[old,id],re:=.app old ⟨r.ks,et,DK q.l r.l,ZB,.sl⟩} kw else .panic) kw).holds sp G ρ I)(hg:Good sp cx.sm ρ kw):Sound P sp ρ G I base cx vw o k kw:=by
 obtain⟨Bn,h1,g1,_,l1⟩:=aC _ _ _ h hg;rw[dQ,cC,cC,bO,bO]at h1;split at h1
 .rename_i DP;rw[ne]at DP;have JP:((q.l.R ρ).length:Int)<1073741824:=Ae DP.1;have Ds:((r.l.R ρ).length:Int)<1073741824:=Ae DP.2;refine⟨_,Bn,h1,g1,l1,fun j a w hb Ao A9 BS A3 Du K Q hK=> ?_⟩;obtain⟨s,hs,Ai⟩:=A3.sl id (by simp) r hr;obtain⟨p,hp,GF⟩:=A3.sl old (by simp) q Ke;obtain⟨u1,u2,BD,HC,E5⟩:=My (j:=j) (a:=a) hl (fun x hx=>Ao x Xn);have e1:=oS hp HC;have e2:=oS hs E5;subst e1 e2;have hu:=(hT _ _ (af hi)).sle et ha;obtain⟨Cv,z,Ct,B5,Ez,hz,HI,Hp⟩:=(hT _ _ (af AZ)).info;have CU:c.argTypes = #[t,t]:=Xs;have hn:=Ai.n;have hpn:=GF.n;have AJ:=GF.own E8.1;rw[E8.2.1,E8.2.2,hq.2.1,<-B5]at AJ;have Dv:=Ai.rd;rw[hq.2.1,<-B5]at Dv;obtain⟨s',w',h2,h3,h4,h5,h6,h7⟩:=eB (P:=P) (base:=base) (ty:=o.type) hu Ct hz Yv Fn AJ Dv px X8
   (by
    have:(p.n+s.n)*Cv.bytes<=2147483648*65536:=Nat.mul_le_mul Fn Fn;omega) hb
  rw[<-lJ,B5,<-hq.2.1,<-h3]at h4;have hR:(DK q.l r.l).R ρ=q.l.R ρ++r.l.R ρ:=aod ρ _ _;refine cf (w':=w') (v:=s'.v) ?_ (hK _ (j.putS vw.nid s') _ aga ⟨p,s',hp,h5,RowOk.mk_own (r:=⟨r.ks,et,DK q.l r.l,ZB,.sl⟩) rfl ?_ ⟨fun x hx=> ?_,?_⟩ Ai.pos (by simp only[hR];exact h4),h6,Zin.nil h7,rfl,fun e=>by cases e⟩)
  .simp only[execOp,Ab,resolve,hc,BD,CU,ZH,Sem.run_pure,Result.andThen_ok,invoke,builtin,h2]
  .simp only[hR,cQ];omega
  .simp only[hR,ZS]at hx;rcases hx with hx|hx
   .have:=GF.rows.row x hx;rw[E8.2.2]at this;exact this
   .exact Ai.rows.row x hx
  .simp only[hR,cQ,maxLen];omega
 .exact h1.elim
end
open Go.ChangeMaps (setBlock)
section
variable {P:Program}{sp:Spec}{ρ:Env}{G:Env->E->Prop}{I:Nat->List Dt->Prop}{base:Nat}{cx:Cx}{vw:Vw}{o:Oper}{k:Eff->Kw->Tr}
def sx{r c:Nat}{es:Array MapEntry}(h:w.heap[r]? =ZA (.map es c)):(getObj r).run P w=.ok (.map es c) w:=by simp[getObj,Sem.run,h]
def su{r c:Nat}{es:Array MapEntry}(h:w.heap[r]? =ZA (.map es c))(ob:Obj):(setObj r ob).run P w=.ok () (setBlock w r ob):=by simp[setObj,Sem.run,h,setBlock]
def kZ(w:World)(r:Nat)(ob:Obj):w.grownBy (setBlock w r ob) (ZA r):=by refine⟨rfl,rfl,rfl,by simp[setBlock],fun k hk Bg=> ?_⟩;have:r≠k:=fun e=>Bg (by rw[e]);simp[setBlock,Array.getElem?_setIfInBounds,this]
def qe{r:Nat}(h:r<w.heap.size)(ob:Obj):(setBlock w r ob).heap[r]? =ZA ob:=by simp[setBlock,Array.getElem?_setIfInBounds,h]
def rh:∀{ks:List CE} {a b:List Int},aq ks a=ZB->aq ks b=ZB->CB (Ax ks a) (Ax ks b)=(a==b)
 |[],[],[],_,_=>rfl
 |some k::ks,x::xs,y::ys,ha,hb=>by simp only[aq,ne]at ha hb;simp only[Ax,fv,CB,rh ha.2 hb.2];rfl
 |none::ks,x::xs,y::ys,ha,hb=>by simp only[aq,ne,CV,eu,cb]at ha hb;simp only[Ax,fv,CB,rh ha.2 hb.2];show _=((x==y)&&(xs==ys));rcases ha.1 with rfl|rfl<;>rcases hb.1 with rfl|rfl<;>rfl
def ku:∀{zs:List C} {ks:List CE} {a:List Int},Dc zs=ZA ks->aq ks a=ZB->aD (Ax ks a) zs
 |[],ks,a,h,ha=>by cases h;cases a with
   |nil=>trivial
   |cons=>cases ha
 |.int k e::zs,ks,a,h,ha=>by
   simp only[Dc,Av]at h;obtain⟨l,hl,rfl⟩:=h;cases a with
   |nil=>cases ha
   |cons x xs=>simp only[aq,ne]at ha;exact⟨rfl,ha.1,ku hl ha.2⟩
 |.bool e::zs,ks,a,h,ha=>by
   simp only[Dc,Av]at h;obtain⟨l,hl,rfl⟩:=h;cases a with
   |nil=>cases ha
   |cons x xs=>simp only[aq,ne]at ha;exact ku (zs:=zs) (ks:=l) (a:=xs) hl ha.2
def lH:∀{zs:List C} {ks:List CE},Dc zs=ZA ks->ks.length=zs.length
 |[],_,h=>by cases h;rfl
 |.int _ _::zs,ks,h=>by simp only[Dc,Av]at h;obtain⟨l,hl,rfl⟩:=h;simp[lH hl]
 |.bool _::zs,ks,h=>by simp only[Dc,Av]at h;obtain⟨l,hl,rfl⟩:=h;simp[lH hl]
def iW:∀{cs zs:List C},dU cs zs=ZB->cs.length=zs.length
 |[],[],_=>rfl
 |.int _ _::l,.int _ _::r,h=>by simp only[dU,ne]at h;simp[iW h.2]
 |.bool _::l,.bool _::r,h=>by simp only[dU]at h;simp[iW h]
def qr:∀(ks:List CE) (r:List Int) (n:Nat),(Ax ks r).take n=Ax (ks.take n) (r.take n)
 |[],r,n=>by simp[Ax]
 |k::ks,[],n=>by cases n<;>simp[Ax]
 |k::ks,x::xs,0=>by simp[Ax]
 |k::ks,x::xs,n+1=>by simp[Ax,qr ks xs n]
def sA:∀{ks:List CE} {r:List Int} (n:Nat),aq ks r=ZB->aq (ks.take n) (r.take n)=ZB
 |[],[],n,_=>by simp[aq]
 |k::ks,x::xs,0,_=>rfl
 |k::ks,x::xs,n+1,h=>by simp only[aq,ne]at h;simp[aq,h.1,sA n h.2]
def jp(r:List Int):Nat->List CE->List Value
 |_,[]=>[]
 |c,k::ks=>fv k (r.getD c 0)::jp r (c+1) ks
def ko(x:Int)(xs:List Int):∀(ks:List CE) (c:Nat),jp (x::xs) (c+1) ks=jp xs c ks
 |[],c=>rfl
 |k::ks,c=>by simp only[jp,ko x xs ks (c+1)];rfl
def lW:∀{ks:List CE} {r:List Int} (c:Nat),aq ks r=ZB->jp r c (ks.drop c)=(Ax ks r).drop c
 |[],[],c,_=>by simp[jp,Ax]
 |k::ks,x::xs,0,h=>by simp only[aq,ne]at h;have:=lW 0 h.2;simp only[List.drop_zero]at this ⊢;simp only[jp,Ax,ko,this];rfl
 |k::ks,x::xs,c+1,h=>by simp only[aq,ne]at h;simp only[List.drop_succ_cons,ko,Ax];exact lW c h.2
def nC:∀{ks:List CE} {r:List Int} (c:Nat),aq ks r=ZB->jp r 0 (ks.take c)=(Ax ks r).take c
 |[],[],c,_=>by simp[jp,Ax]
 |k::ks,x::xs,0,h=>by simp[jp]
 |k::ks,x::xs,c+1,h=>by simp only[aq,ne]at h;simp only[List.take_succ_cons,jp,Ax,ko,nC c h.2];rfl
def jQ{j:J}{l e:E}:∀(ks:List CE) (c:Nat),Ad ρ j (eK l e c ks)=ZA (jp ((l.R ρ).getD (e.I ρ).toNat []) c ks)
 |[],c=>rfl
 |k::ks,c=>by simp only[eK,Ad,pj,jQ ks (c+1),jp];rfl
def pD{j:J}:∀{zs:List C} {ks:List CE} (c:Nat),zs.all C.isZero=ZB->Dc zs=ZA ks->Ad ρ j zs=ZA (jp [] c ks)
 |[],ks,c,_,h=>by cases h;rfl
 |.int k (.p z)::zs,ks,c,hz,h=>by simp only[Dc,Av]at h;obtain⟨l,hl,rfl⟩:=h;simp only[YV,ne]at hz;have e:z=0:=cF hz.1;subst e;simp only[Ad,C.den,E.I,pD (c+1) hz.2 hl,jp];simp[fv]
 |.bool (.tt b)::zs,ks,c,hz,h=>by
   simp only[Dc,Av]at h;obtain⟨l,hl,rfl⟩:=h;simp only[YV,ne]at hz;have e:b=ZC:=by simpa[C.isZero]using hz.1
   subst e;simp only[Ad,C.den,E.B,pD (c+1) hz.2 hl,jp];simp[fv]
def cY{ks:List CE}{nk:Nat}{ka va:Bool}:∀(L:LL) (i m:Nat),(cu ks nk ka va i L)[m]? =(L[m]?).map (Dl ks nk ka va (i+m))
 |[],i,m=>by simp[cu]
 |r::L,i,0=>by simp[cu]
 |r::L,i,m+1=>by simp only[cu,lu,cY L (i+1) m];congr 2;omega
def fk{ks:List CE}{nk:Nat}{ka va:Bool}:∀(L:LL) (i:Nat),(cu ks nk ka va i L).length=L.length
 |[],i=>rfl
 |r::L,i=>by simp[cu,fk L]
def jv(key r:List Int):Bool:=r.take key.length==key
def kQ(ks:List CE)(nk:Nat)(va:Bool)(key:List Int)(i:Nat)(L:LL):Option (Nat×Value):=
 (L[L.findIdx (jv key)]?).map fun r=>(i+L.findIdx (jv key),dt va ((Ax ks r).drop nk))
def sS{i:Nat}{r:List Int}:kQ ks nk va key i (r::L)=if jv key r=ZB then ZA (i,dt va ((Ax ks r).drop nk))else kQ ks nk va key (i+1) L:=by
 unfold kQ;rw[List.findIdx_cons];cases h:jv key r with
 |true=>simp
 |false=>simp only[cond_false,lu,ZY,dz];congr 1;funext r;congr 1;omega
def nb{ks:List CE}{nk kt:Nat}{ka va:Bool}{key:List Int}{K:Value}:∀(L:LL) (i:Nat) (w:World),(∀r∈L,∀i w,(Op.equal kt K (Dl ks nk ka va i r).key).run P w=.ok (jv key r) w)->
  (Instr.findAsking kt K (cu ks nk ka va i L) i).run P w=.ok (kQ ks nk va key i L) w
 |[],i,w,_=>by simp[cu,Instr.findAsking,kQ]
 |r::L,i,w,h=>by
   simp only[cu,Instr.findAsking,ZH,h r bG,Result.andThen_ok,sS];cases jv key r with
   |true=>simp[Dl]
   |false=>simp only[ZY,dz];exact nb L (i+1) w (fun r hr=>h r (cm _ hr))
def sW{ks:List CE}{nk:Nat}{kd:IntKind}{va:Bool}{x:Int}(Bx:∃t,ks=ZA kd::t)(hn:nk=1):∀(L:LL) (i:Nat),(∀r∈L,aq ks r=ZB)->
  Instr.findNow (.int kd) (.int kd x) (cu ks nk ZC va i L) i=ZA (kQ ks nk va [x] i L)
 |[],i,_=>by simp[cu,Instr.findNow,kQ]
 |r::L,i,h=>by
   obtain⟨t,rfl⟩:=Bx;subst hn;have hr:=h r bG;cases r with
   |nil=>cases hr
   |cons y ys=>
     have e:(Dl (ZA kd::t) 1 ZC va i (y::ys)).key=.int kd y:=rfl;simp only[cu,Instr.findNow,e,Instr.sameNow,aW];rw[sS];have e2:jv [x] (y::ys)=(x==y):=by show([y]==[x])=_;rw[ar];simp;exact eq_comm
     rw[e2];cases x==y with
     |true=>rfl
     |false=>simp only[ZY,dz];exact sW ⟨t,rfl⟩ rfl L (i+1) (fun r hr=>h r (cm _ hr))
def ahY:decide (Cc L key<(L.length:Int))=(kQ ks nk va key 0 L).isSome:=by unfold kQ Cc;rw[show(fun r:List Int=>r.take key.length==key)=jv key from rfl];rw[ar];simp only[ax,Option.isSome_map];rw[Option.isSome_iff_ne_none,ne_eq,List.getElem?_eq_none_iff];omega
structure Fits(P:Program)(ρ:Env)(i:TI)(r:RowOb)(nk:Nat)(ka va:Bool)(ki ei:TI)(kt et t:Nat)(K:Value)(CH:List Value)(key:List Int):Prop where
 ty:r.ty=t
 und:P.underlying t=ZA (.map kt et)
 kval:K=dt ka CH
 kk:CH=Ax (r.ks.take nk) key
 Jw:aq (r.ks.take nk) key=ZB
 len:key.length=nk
 pos:nk<=r.ks.length
 zero:∃z,(∀w,(zeroValue et).run P w=.ok z w)/\z=dt va (jp [] nk (r.ks.drop nk))
 chk:∀b w,(Instr.checkKey b 10000 kt K).run P w=.ok () w
 find:∀L:LL,(∀x∈L,aq r.ks x=ZB)->∀w,(Instr.findKey kt K (cu r.ks nk ka va 0 L)).run P w=.ok (kQ r.ks nk va key 0 L) w
 bits:Instr.sameBits 10000 K K=ZB
def anH{vals:List Value}(hd:kv.den ρ j=ZA K)(ha:Pz ka kv=ZB)(hv:Ad ρ j kv.cells=ZA vals):K=dt ka vals:=by
 cases kv with
 |one c=>
   have:ka=ZC:=by simpa[Pz]using ha
   subst this;have GW:c.den ρ j=ZA K:=hd;simp only[V.cells,Ad,GW,aU]at hv;subst hv;rfl
 |agg cs=>have:ka=ZB:=ha;subst this;simp only[V.den,Av]at hd;obtain⟨vs,h1,rfl⟩:=hd;simp only[V.cells]at hv;rw[h1]at hv;cases hv;rfl
 |tup _=>cases ha
 |top=>cases hd
def mi(n:Nat)(k:CE)(x:Int):Instr.sameBits (n+1) (fv k x) (fv k x)=ZB:=by cases k<;>simp[fv,Instr.sameBits]
def abM:∀{ks:List CE} {r:List Int} {v:Value},v∈Ax ks r->∃k x,v=fv k x
 |[],_,v,h=>by simp[Ax]at h
 |k::ks,[],v,h=>by simp[Ax]at h
 |k::ks,x::xs,v,h=>by
   rcases ZN.1 h with rfl|h
   .exact⟨k,x,rfl⟩
   .exact abM h
def wJ{r:List Int}:Instr.sameBits 10000 (.agg (Ax ks r).toArray) (.agg (Ax ks r).toArray)=ZB:=by
 show((Ax ks r).toArray.size==(Ax ks r).toArray.size&&((Ax ks r).toArray.toList.zip (Ax ks r).toArray.toList).all fun(x,y)=>Instr.sameBits 9999 x y)=ZB;rw[ne];refine⟨by simp,Co.2 fun p hp=> ?_⟩;have e:∀(l:List Value),∀p∈l.zip l,p.1=p.2/\p.1∈l:=by
  intro l
  induction l with
  |nil=>intro p hp;simp at hp
  |cons a l ih=>
    intro p hp;rcases ZN.1 hp with rfl|hp
    .exact⟨rfl,bG⟩
    .exact⟨(ih p hp).1,cm _ (ih p hp).2⟩
 obtain⟨h1,h2⟩:=e _ p hp;obtain⟨a,b⟩:=p;simp only at h1 h2;subst h1;obtain⟨k,x,rfl⟩:=abM h2;exact mi 9998 k x
def zg(d:TypeDesc)(a:Array Value)(v:Value):Instr.sameNow d (.agg a) v=ZD:=by cases d<;>rfl
def amp{Hs:IntKind}(hu:P.underlying kt=ZA (.int kd))(x:Int)(b:Bool)(w:World):(Instr.checkKey b 10000 kt (.int Hs x)).run P w=.ok () w:=by show(Instr.checkKey b (9999+1) kt (.int Hs x)).run P w=_;unfold Instr.checkKey;rw[ZH,run_underlying hu];rfl
def arR(hT:∀t i,(t,i)∈cx.ty->TIok P t i)(hv:Vk ρ vk){key:E}(hi:aj t cx.ty=ZA i)(hm:i.mapt=ZA (kt,et))(IB:aj kt cx.ty=ZA ki)(HD:aj et cx.ty=ZA ei)(Gz:D3 vk (r.ks.take nk) kv.cells=ZA key)(hf:qN i r nk ka va ki ei kv t=ZB)(hd:kv.den ρ j=ZA K):∃CH,Ad ρ j kv.cells=ZA CH/\Fits P ρ i r nk ka va ki ei kt et t K CH (key.L ρ):=by
 have ti:=hT _ _ (af hi);have tk:=hT _ _ (af IB);have te:=hT _ _ (af HD);unfold qN at hf;simp only[ne,cb]at hf;obtain⟨f1,f2,f3,f4,f5,f6,f7,f8,f9⟩:=hf;split at f9
 .rename_i a b ha hb;have Bx:=bQ f9;have hn:nk=kv.cells.length:=Ah f8;have Dh:a.length=nk:=by rw[lH ha,hn,iW f6]
  have t1:r.ks.take nk=a:=by rw[Bx,<-Dh,List.take_left'];rfl
  have t2:r.ks.drop nk=b:=by rw[Bx,<-Dh,List.drop_left'];rfl
  have Hh:kv.flat=ZB:=by cases kv<;>first|rfl|(cases f2)
  obtain⟨CH,OV⟩:∃CH,Ad ρ j kv.cells=ZA CH:=⟨_,V.cells_ok hd Hh⟩
  obtain⟨e1,e2⟩:=jP hv Gz OV;have hK:=anH hd f2 OV;have AE:(key.L ρ).length=nk:=by rw[cn e2,t1,Dh]
  have isz:0<10000:=Os;refine⟨CH,OV,Ah f1,ti.mapt _ _ hm,hK,e1,e2,AE,by rw[Bx,cQ];omega,?_,?_,?_,?_⟩
  .obtain⟨z,hz,Hp⟩:=te.zero;refine⟨z,hz,?_⟩;have h1:=Hp ρ j;rw[pD nk f5 hb]at h1;have h2:=te.zsh z hz;have Tp:z.cells.toList=jp [] nk b:=(YL h1).symm;rw[t2];cases va with
   |true=>rw[h2.1 f4,<-Tp];simp[dt]
   |false=>have h3:=h2.2 f4;rw[h3]at Tp;simp only[dt,ZY,dz,<-Tp];rfl
  all_goals
   cases ka with
   |true=>
     simp only[cond_true,ne]at f7;have K1:K=.agg (Ax a (key.L ρ)).toArray:=by rw[hK,e1,t1];rfl
     have kz:=ku ha (t1▸e2)
     first
      |exact fun b w=>by rw[K1];exact tk.key f7.1 _ kz b w
      | (intro L hL w
         unfold Instr.findKey;obtain⟨d,hdu⟩:=tk.und;rw[ZH,run_underlying hdu,Result.andThen_ok];cases L with
         |nil=>simp[cu,Instr.findNow,kQ]
         |cons x L=>
           simp only[cu,Instr.findNow];rw[K1,zg];simp only;rw[<-K1];refine nb (x::L) 0 w fun y hy i w=> ?_;have Kh:=hL y hy;have e3:(Dl r.ks nk ZB va i y).key=.agg (Ax a (y.take nk)).toArray:=by show dt ZB ((Ax r.ks y).take nk)=_;rw[qr,t1];rfl
           have O6:aq a (y.take nk)=ZB:=t1▸sA nk Kh;rw[K1,e3,tk.eq f7.2 _ _ kz (ku ha O6),rh (t1▸e2) O6];congr 1;unfold jv;rw[AE,ar];simp only[cb];exact eq_comm)
      |(rw[K1];exact wJ)
   |false=>
     simp only[cond_false]at f7;split at f7
     .rename_i kd Hs rest GX FF;simp only[ne]at f7;have Dq:=av f7.1;subst Dq;have n1:nk=1:=Ah f7.2;subst n1;have hu:=tk.ik kd GX;have CN:a=[ZA kd]:=by rw[<-t1,FF];rfl
      obtain⟨x,hx⟩:∃x,key.L ρ=[x]:=by
       have:=AE
       match Dj:key.L ρ,this with
       |[x],_=>exact⟨x,rfl⟩
      have K1:K=.int kd x:=by rw[hK,e1,t1,CN,hx];rfl
      first
       |exact fun b w=>by rw[K1];exact amp hu x b w
       | (intro L hL w
          unfold Instr.findKey;rw[ZH,run_underlying hu,Result.andThen_ok,K1,sW ⟨rest,FF⟩ rfl L 0 hL,hx];rfl)
       |(rw[K1];exact mi 9999 (ZA kd) x)
     .cases f7
 .cases f9
def atA{id:Nat}(hs:j.s id=ZA s)(h:(V.one (.mp id)).den ρ j=ZA v):v=s.mv:=by have h':(j.s id).map SV.mv=ZA v:=h;rw[hs]at h';exact(YL h').symm
def Vw.mw_some{vw:Vw}{id:Nat}(h:vw.mw id=ZA (r,nk,ka,va)):vw.rw id=ZA r/\r.kd=.map nk ka va:=by
 unfold Vw.mw at h;split at h
 .rename_i q hq;split at h
  next hk=>cases h;exact⟨hq,hk⟩
  .exact ST
 .exact ST
def Vw.iw_some{vw:Vw}{id mid:Nat}{n:E}(h:vw.iw id=ZA (r,mid,n)):vw.rw id=ZA r/\r.kd=.it mid n:=by
 unfold Vw.iw at h;split at h
 .rename_i q hq;split at h
  next hk=>cases h;exact⟨hq,hk⟩
  .exact ST
 .exact ST
def RowOk.map(h:RowOk ρ base w s r)(hk:r.kd=.map nk ka va):∃g,s.a=ZA ⟨g,0,ZD⟩/\base<=g/\w.heap[g]? =ZA (.map (cu r.ks nk ka va 0 (r.l.R ρ)).toArray (r.l.R ρ).length)/\RowsIn r.ks (r.l.R ρ)/\s.c=1/\r.own=ZB:=by have hd:=h.2.1 Yq;obtain⟨g,ob,h1,h2,h3,h4⟩:=hd.at';unfold FZ at h4;rw[hk]at h4;exact⟨g,h1,h2,by rw[h3,h4],hd.rows,hd.c,hd.own⟩
def anE(hk:r.kd=.map nk ka va)(ho:r.own=ZB)(h1:s.a=ZA ⟨g,0,ZD⟩)(h2:base<=g)(h3:w.heap[g]? =ZA (.map (cu r.ks nk ka va 0 (r.l.R ρ)).toArray (r.l.R ρ).length))(h4:RowsIn r.ks (r.l.R ρ))(h5:s.c=1):RowOk ρ base w s r:=HdOk.row ⟨ho,h4,h5,g,_,h1,h2,h3,by unfold FZ;rw[hk]⟩ Yq
def yY(hT:∀t i,(t,i)∈cx.ty->TIok P t i)(Ab:o.op=.makeMap t ZD)(hi:aj t cx.ty=ZA i)(hm:i.mapt=ZA (kt,et)){kk ek:List CE}(h:(k {val:=.one (.mp vw.nid),re:=.mk [⟨kk++ek,t,.ln,ZB,.map kk.length ki.agg ei.agg⟩]} kw).holds sp G ρ I)(hg:Good sp cx.sm ρ kw):Sound P sp ρ G I base cx vw o k kw:=by
 refine⟨_,kw,h,hg,.refl _,fun j a w hb Ao A9 BS A3 Du K Q hK=> ?_⟩;have hx:Ext w (w.alloc (.map #[] 0)):=(Ext.refl w).alloc _;refine cf (w':=w.alloc (.map #[] 0)) (v:=.map (ZA w.heap.size)) ?_ (hK _ (j.putL vw.nid [⟨ZA ⟨w.heap.size,0,ZD⟩,1,1,[]⟩]) _ (by simp[V.den,C.den,J.putL,SV.mv]) (kY hx (anE (g:=w.heap.size) rfl rfl rfl (YJ _) (heap_alloc_new _ _) ⟨by simp[E.R],by simp[E.R]⟩ rfl) rfl rfl));simp[execOp,Ab,Instr.makeMap,newObj,ZH,Sem.run]
def ai7(L:LL)(r:List Int):(cu ks nk ka va 0 L).toArray.push (Dl ks nk ka va L.length r)=(cu ks nk ka va 0 (L++[r])).toArray:=by
 rw[List.push_toArray];congr 1;apply List.ext_getElem?;intro m;rw[cY];rcases Nat.lt_trichotomy m L.length with h|h|h
 .rw[AW (by rw[fk];exact h),cY,AW h]
 .subst h;rw[Bc (by rw[fk];omega),fk,Bc (YJ _)];simp
 .rw[bN (by rw[cQ,fk];simp;omega),bN (by rw[cQ];simp;omega)];rfl
def amg(L:LL)(n:Nat)(r:List Int)(K V:Value)(hK:K=dt ka ((Ax ks r).take nk))(hV:V=dt va ((Ax ks r).drop nk)):
  (cu ks nk ka va 0 L).toArray.modify n (fun e=>{e with key:=K,val:=V})=(cu ks nk ka va 0 (L.set n r)).toArray:=by
 rw[List.modify_toArray];congr 1;apply List.ext_getElem?;intro m;rw[cY,List.getElem?_modify,cY,dY];by_cases h:n=m
 .subst h;rw[ae rfl];rcases bn n L.length with hl|hl
  .rw[ae hl,Az hl];simp[Dl,hK,hV]
  .rw[aa Fn,bN hl];rfl
 .rw[aa h];cases L[m]? <;>simp[h]
def uD{V:Value}{CH Mm:List Value}(hF:Fits P ρ i r nk ka va ki ei kt et t K CH key)(hL:∀x∈L,aq r.ks x=ZB)(hw:w.heap[g]? =ZA (.map (cu r.ks nk ka va 0 L).toArray L.length))
  (AG:CH++Mm=Ax r.ks row) (AE:CH.length=nk) (hV:V=dt va Mm):
  (Instr.mapUpdate t (.map (ZA g)) K V).run P w=.ok () (setBlock w g (.map (cu r.ks nk ka va 0 (if decide (Cc L key<(L.length:Int))=ZB then L.set (Cc L key).toNat row else L++[row])).toArray (if decide (Cc L key<(L.length:Int))=ZB then L.set (Cc L key).toNat row else L++[row]).length)):=by
 have I8:(Cc L key).toNat=L.findIdx (jv key):=by unfold Cc;rw[show(fun r:List Int=>r.take key.length==key)=jv key from rfl];simp
 have hfd:=hF.find L hL w;have k1:K=dt ka ((Ax r.ks row).take nk):=by rw[<-AG,<-AE,List.take_left' rfl];exact hF.kval
 have v1:V=dt va ((Ax r.ks row).drop nk):=by rw[<-AG,<-AE,List.drop_left' rfl];exact hV
 rw[I8,ahY (ks:=r.ks) (nk:=nk) (va:=va)];have QV:∀q,kQ r.ks nk va key 0 L=q->(Instr.mapUpdate t (.map (ZA g)) K V).run P w=((match q with
   |some (i,_)=>do
     let key <-Instr.keyThatStays ((((cu r.ks nk ka va 0 L).toArray[i]?).map (·.key)).getD K) K
     setObj g (.map ((cu r.ks nk ka va 0 L).toArray.modify i fun e=>{e with key,val:=V}) L.length)
   |none=>setObj g (.map ((cu r.ks nk ka va 0 L).toArray.push {key:=K,val:=V,born:=L.length}) (L.length+1)):Sem Unit)).run P w:=by
  intro q hq;unfold Instr.mapUpdate;simp only[ZH,run_underlying hF.und,Result.andThen_ok,sx hw,hF.chk,hfd,hq];cases q with
  |none=>rfl
  |some p=>obtain⟨a,b⟩:=p;simp only[ZH]
 cases hx:L[L.findIdx (jv key)]? with
 |none=>
   have hq:kQ r.ks nk va key 0 L=ZD:=by unfold kQ;rw[hx];rfl
   rw[QV _ hq,hq];simp only[Option.isSome_none,ZY,dz];rw[su hw,cQ];rw[show({key:=K,val:=V,born:=L.length}:MapEntry)=Dl r.ks nk ka va L.length row by unfold Dl;rw[<-k1,<-v1],ai7];rfl
 |some x=>
   have hxm:x∈L:=ew hx;have Ap:=(bX.1 hx).1;have hq:kQ r.ks nk va key 0 L=ZA (0+L.findIdx (jv key),dt va ((Ax r.ks x).drop nk)):=by unfold kQ;rw[hx];rfl
   have GX:jv key x=ZB:=by have h1:=List.findIdx_getElem (w:=Ap);rw[(bX.1 hx).2]at h1;exact h1
   have hke:(((cu r.ks nk ka va 0 L).toArray[0+L.findIdx (jv key)]?).map (·.key)).getD K=K:=by
    rw[be];have e1:(cu r.ks nk ka va 0 L).toArray[L.findIdx (jv key)]? =ZA (Dl r.ks nk ka va (0+L.findIdx (jv key)) x):=by rw[List.getElem?_toArray,cY,hx];rfl
    rw[e1];show dt ka ((Ax r.ks x).take nk)=K;rw[hF.kval,hF.kk,qr];have:x.take nk=key:=by have:=GX;unfold jv at this;rw[hF.len]at this;exact eq_of_beq this
    rw[this]
   rw[QV _ hq,hq];simp only[Option.isSome_some,aW,hke];have Em:(Instr.keyThatStays K K).run P w=.ok K w:=by unfold Instr.keyThatStays;rw[ae hF.bits];rfl
   simp only[ZH,Em,Result.andThen_ok];rw[su hw,be,amg L _ row K V k1 v1,YU]
def uj(hT:∀t i,(t,i)∈cx.ty->TIok P t i){id:Nat}{z:Operand}(Ab:o.op=.mapUpdate t x y z){zv:V}(hx:vw.ev x=ZA (.one (.mp id)))(hy:vw.ev y=ZA kv)(hz:vw.ev z=ZA zv)(hi:aj t cx.ty=ZA i)(hm:i.mapt=ZA (kt,et))(hr:vw.mw id=ZA (r,nk,ka,va))
  (IB:aj kt cx.ty=ZA ki) (HD:aj et cx.ty=ZA ei) {key row:E} (Gz:D3 kw.vk (r.ks.take nk) kv.cells=ZA key) (AG:D3 kw.vk r.ks (kv.cells++zv.cells)=ZA row) (hf:qN i r nk ka va ki ei kv t=ZB) (hza:Pz va zv=ZB)
  (h:(AB (A8 (OA r.l key) (bY r.l)) (fun b kw=>if b then
       k {val:=.one .undef,rr:=[id],re:=.set id {r with l:=.lput r.l (OA r.l key) row}} kw
      else AB (A8 (bY r.l) (.p DW)) (fun b kw=>if b then k {val:=.one .undef,rr:=[id],re:=.set id {r with l:=.lq r.l row}} kw else .stuck 130) kw) kw).holds sp G ρ I) (hg:Good sp cx.sm ρ kw):Sound P sp ρ G I base cx vw o k kw:=by
 obtain⟨ED,G0⟩:=Vw.mw_some hr
 have Ij:∀(l':E) (Ak:Kw),KwGe Ak kw->Good sp cx.sm ρ Ak->l'.R ρ=(if decide (Cc (r.l.R ρ) (key.L ρ)<((r.l.R ρ).length:Int))=ZB then(r.l.R ρ).set (Cc (r.l.R ρ) (key.L ρ)).toNat (row.L ρ)else r.l.R ρ++[row.L ρ])->(RowsIn r.ks (r.l.R ρ)->(l'.R ρ).length<=maxLen)->
   (k {val:=.one .undef,rr:=[id],re:=.set id {r with l:=l'}} Ak).holds sp G ρ I->Sound P sp ρ G I base cx vw o k kw:=by
  intro l' Ak GZ CC hl AE hh;refine⟨_,Ak,hh,CC,GZ,fun j a w hb Ao A9 BS A3 Du K Q hK=> ?_⟩;obtain⟨s,hs,Ai⟩:=A3 id (by simp) r ED;obtain⟨g,h1,h2,h3,h4,h5,h6⟩:=Ai.1.map G0;have H3:=atA hs (Ao x Or _ hx);have KJ:=Ao y Or _ hy;have hdz:=Ao z Or _ hz;obtain⟨CH,OV,hF⟩:=arR hT hg.vk hi hm IB HD Gz hf KJ;have hzf:zv.flat=ZB:=by cases zv<;>first|rfl|(cases hza)
  have hzv:=V.cells_ok hdz hzf;obtain⟨e1,e2⟩:=jP hg.vk AG (eU OV hzv);have Hj:CH.length=nk:=by rw[aP OV];unfold qN at hf;simp only[ne]at hf;exact(Ah hf.2.2.2.2.2.2.2.1).symm
  have Be:=uD hF h4.row h3 e1 Hj (anH hdz hza hzv);rw[<-hl]at Be;have Ap:=(fL.1 h3).1;refine rV (w':=setBlock w g (.map (cu r.ks nk ka va 0 (l'.R ρ)).toArray (l'.R ρ).length)) ?_ (hK _ j _ rfl ⟨rfl,s,hs,?_,anE (r:={r with l:=l'}) (g:=g) G0 h6 h1 h2 (qe Ap _) ⟨fun q hq=> ?_,AE h4⟩ h5,fun e=>by rw[show r.kd=_ from G0]at e;cases e⟩)
  .simp only[execOp,Ab,H3,SV.mv,h1,ZK,ZH,Be,Result.andThen_ok,Sem.run_pure]
  .have:s.v.ownBlock=ZA g:=by simp[SV.v,h1,Value.ownBlock]
   rw[this];exact kZ w g _
  .simp only at hq;rw[hl]at hq;split at hq
   .rcases List.mem_or_eq_of_mem_set hq with hq|rfl
    .exact h4.row q hq
    .exact e2
   .rcases ZS.1 hq with hq|hq
    .exact h4.row q hq
    .rw[cV.1 hq];exact e2
 obtain⟨Bn,g1,q1,_,l1⟩:=aC _ _ _ h hg;rw[cC,ahU,bO]at g1;split at g1
 .rename_i Ap;refine Ij _ Bn l1 q1 ?_ (fun h4=> ?_) g1
  .simp only[E.R,ahU];rw[ae Ap]
  .simp only[E.R,YU];exact h4.len
 .rename_i Ap;obtain⟨Dd,g2,q2,_,l2⟩:=aC _ _ _ g1 q1;rw[cC,bO]at g2;split at g2
  .rename_i DP;refine Ij _ Dd (l2.trans l1) q2 ?_ (fun h4=> ?_) g2
   .simp only[E.R];rw[aa Ap]
   .have:=Ae DP;simp only[E.I,DW]at this;simp only[E.R,cQ,List.length_singleton,maxLen];omega
  .exact g2.elim
def afQ(hT:∀t i,(t,i)∈cx.ty->TIok P t i){id:Nat}(Ab:o.op=.range t x)(hx:vw.ev x=ZA (.one (.mp id)))(hi:aj t cx.ty=ZA i)(hm:i.mapt=ZA (kt,et))(hr:vw.mw id=ZA (r,nk,ka,va))(Bg:ZI id vw.nid=ZC)(h:(k {val:=.one (.itp vw.nid id),rr:=[id],re:=.mk [⟨[ZA .i64],t,.ln,ZB,.it id (bY r.l)⟩]} kw).holds sp G ρ I)(hg:Good sp cx.sm ρ kw):Sound P sp ρ G I base cx vw o k kw:=by
 refine⟨_,kw,h,hg,.refl _,fun j a w hb Ao A9 BS A3 Du K Q hK=> ?_⟩;obtain⟨ED,G0⟩:=Vw.mw_some hr;obtain⟨s,hs,Ai⟩:=A3 id (by simp) r ED;obtain⟨g,h1,h2,h3,h4,h5,h6⟩:=Ai.1.map G0;have H3:=atA hs (Ao x Or _ hx);have ER:Ext w (w.alloc (.mapIter (ZA g) (r.l.R ρ).length #[] (r.l.R ρ).length)):=(Ext.refl w).alloc _;have E7:id≠vw.nid:=fun e=>by rw[e]at Bg;simp at Bg
 have H0:(V.one (.itp vw.nid id)).den ρ (j.putL vw.nid [⟨ZA ⟨w.heap.size,0,ZD⟩,g,1,[]⟩])=ZA (.pointer (ZA ⟨w.heap.size,0,ZD⟩)):=by
  have e1:(j.putL vw.nid [⟨ZA ⟨w.heap.size,0,ZD⟩,g,1,[]⟩]).s vw.nid=ZA ⟨ZA ⟨w.heap.size,0,ZD⟩,g,1,[]⟩:=by simp[J.putL]
  have e2:(j.putL vw.nid [⟨ZA ⟨w.heap.size,0,ZD⟩,g,1,[]⟩]).s id=ZA s:=by
   simp only[J.putL];split
   .have:id-vw.nid≠0:=by omega
    rw[bN Xz];exact hs
   .exact hs
  show(C.itp vw.nid id).den ρ _=_;simp only[C.den,e1,e2,Option.bind_some,h1,aW,SV.pv,ZK]
 refine cf (w':=w.alloc (.mapIter (ZA g) (r.l.R ρ).length #[] (r.l.R ρ).length)) (v:=.pointer (ZA ⟨w.heap.size,0,ZD⟩)) ?_ (hK _ (j.putL vw.nid [⟨ZA ⟨w.heap.size,0,ZD⟩,g,1,[]⟩]) _ H0 (kY ER (HdOk.row ⟨rfl,⟨by simp[E.R],by simp[E.R]⟩,rfl,w.heap.size,_,rfl,YJ _,heap_alloc_new _ _,?_⟩ rfl) rfl rfl))
 .simp[execOp,Ab,H3,SV.mv,h1,Instr.range,newObj,ZH,Sem.run,run_underlying (hT _ _ (af hi) |>.mapt _ _ hm),sx h3]
 .refine⟨rfl,?_,by simp[E.R],by simp[E.R]⟩;simp[bO,E.R,Ck]
def afZ(hT:∀t i,(t,i)∈cx.ty->TIok P t i){id mid:Nat}(Ab:o.op=.entry x)(hx:vw.ev x=ZA (.one (.itp id mid))){n:E}(hq:vw.iw id=ZA (q,mid,n)){sl iv:E}(hql:q.l=.lq sl (.cons iv .nil))(hr:vw.mw mid=ZA (r,nk,ka,va))(hn:n.same (bY r.l)=ZB)(h:(k {val:=.tup [(ka,eK r.l iv 0 (r.ks.take nk)),(va,eK r.l iv nk (r.ks.drop nk))],rr:=[id,mid]} kw).holds sp G ρ I)(hg:Good sp cx.sm ρ kw)(Te:ka=ZC->nk=1)(hva:va=ZC->(r.ks.drop nk).length=1)(hnk:nk<=r.ks.length):Sound P sp ρ G I base cx vw o k kw:=by
 refine⟨_,kw,h,hg,.refl _,OpOk.pure fun j a w _ Ao _ A3 _=> ?_⟩;obtain⟨Kc,E8⟩:=Vw.iw_some hq;obtain⟨ED,G0⟩:=Vw.mw_some hr;obtain⟨s,m,hs,Ge,Qs,hv⟩:=xP (ρ:=ρ) (Ao x Or _ hx);obtain⟨s1,Cj,hok1⟩:=A3 id (by simp) q Kc;rw[hs]at Cj;cases Cj;obtain⟨s2,HF,hok2⟩:=A3 mid (by simp) r ED;rw[Ge]at HF;cases HF;obtain⟨g,h1,h2,h3,h4,h5,h6⟩:=hok2.1.map G0;have hd:=hok1.1.2.1 (by rw[E8];rfl);obtain⟨gi,ob,i1,i2,i3,i4⟩:=hd.at';unfold FZ at i4;rw[E8]at i4;obtain⟨Bx,rfl,EA,CD⟩:=i4;rw[Qs]at h1;cases h1;have hL:q.l.R ρ=sl.R ρ++[[iv.I ρ]]:=by rw[hql];rfl
 rw[hL]at CD i3;have hiv:=CD [iv.I ρ] (by simp);simp only[List.getD_cons_zero]at hiv;rw[E.same_eq hn,bO]at hiv;have hit:Ck (sl.R ρ++[[iv.I ρ]])=Ck (sl.R ρ)++[(iv.I ρ).toNat]:=by simp[Ck]
 rw[hit]at i3;have i5:w.heap[gi]? =ZA (.mapIter (ZA s.n) (n.I ρ).toNat ((Ck (sl.R ρ)).toArray.push (iv.I ρ).toNat) (n.I ρ).toNat):=by rw[i3];simp
 obtain⟨x0,To⟩:∃x0,(r.l.R ρ)[(iv.I ρ).toNat]? =ZA x0:=⟨_,Az Fn⟩
 have hx0m:x0∈r.l.R ρ:=ew To;have Qz:=h4.row x0 hx0m;have JZ:(cu r.ks nk ka va 0 (r.l.R ρ))[(iv.I ρ).toNat]? =ZA (Dl r.ks nk ka va (iv.I ρ).toNat x0):=by rw[cY,To];simp
 have JT:((cu r.ks nk ka va 0 (r.l.R ρ)).toArray.toList.map (·.born)).Nodup:=by
  have:∀(L:LL) (i:Nat),(cu r.ks nk ka va i L).map (·.born)=List.range' i L.length:=by
   intro L
   induction L with
   |nil=>intro i;rfl
   |cons y L ih=>intro i;simp only[cu,YR,ih,Dl,YM,List.range'_succ]
  simp only[this];exact List.nodup_range'
 have KL:(n.I ρ).toNat=(r.l.R ρ).length:=by rw[E.same_eq hn,bO];simp
 have Be:=run_entry_at (P:=P) w gi s.n (n.I ρ).toNat (Ck (sl.R ρ)).toArray (cu r.ks nk ka va 0 (r.l.R ρ)).toArray (r.l.R ρ).length (Dl r.ks nk ka va (iv.I ρ).toNat x0) (by rw[i5,KL];rfl) h3 (ew JZ) JT;refine⟨.tuple #[(Dl r.ks nk ka va (iv.I ρ).toNat x0).key,(Dl r.ks nk ka va (iv.I ρ).toNat x0).val],?_,?_⟩
 .have d1:Ad ρ j (eK r.l iv 0 (r.ks.take nk))=ZA ((Ax r.ks x0).take nk):=by rw[jQ,bh,To];simp only[Option.getD_some];rw[nC nk Qz]
  have d2:Ad ρ j (eK r.l iv nk (r.ks.drop nk))=ZA ((Ax r.ks x0).drop nk):=by rw[jQ,bh,To];simp only[Option.getD_some];rw[lW nk Qz]
  have one:∀(b:Bool) (cs:List C) (vals:List Value),Ad ρ j cs=ZA vals->(b=ZC->cs.length=1)->Bt ρ j (b,cs)=ZA (dt b vals):=by
   intro b cs vals hd hl;cases b with
   |true=>simp[Bt,hd,dt]
   |false=>
     have:=hl rfl
     match cs,this with
     |[c],_=>
       simp only[Ad]at hd;cases hc:c.den ρ j with
       |none=>rw[hc]at hd;cases hd
       |some v=>rw[hc]at hd;cases hd;simp[Bt,hc,dt]
  have p1:=one ka _ _ d1 (fun e=>by rw[dT,YQ,Te e];have:=Te e;omega);have p2:=one va _ _ d2 (fun e=>by rw[dT];exact hva e);simp only[V.den,ce,p1,p2,ZK];rfl
 .simp only[execOp,Ab,hv,SV.pv,i1,ZK,ZH,Be,Result.andThen_ok,Sem.run_pure]
end
open Go.Sort (mapBlock onCells setCell_eq mapBlock_mapBlock mapBlock_congr)
section
variable {P:Program}{sp:Spec}{ρ:Env}{G:Env->E->Prop}{I:Nat->List Dt->Prop}{base:Nat}{cx:Cx}{vw:Vw}{o:Oper}{k:Eff->Kw->Tr}
def Pt(e:E)(n:Nat):(Jv e n).B ρ=(decide (0<=e.I ρ)&&decide (e.I ρ<(n:Int))):=by
 unfold Jv;rw[dQ,db,cC,cC];show(!decide (e.I ρ<0)&&decide (e.I ρ<(n:Int)))=_;congr 1;by_cases h:e.I ρ<0
 .rw[cP h,fB (by omega:¬0<=e.I ρ)];rfl
 .rw[fB h,cP (by omega:0<=e.I ρ)];rfl
def acd{o:Nat}{fo:Nat}(h:(C.pe b o n sz e off).den ρ j=ZA v):∃a,v=.pointer (ZA a)/\(C.pe b o n sz e (off+fo)).den ρ j=ZA (.pointer (ZA (a.add fo))):=by simp only[C.den,Av]at h;obtain⟨kk,hk,rfl⟩:=h;exact⟨_,rfl,by simp only[C.den,hk,ZK,bw];congr 4;omega⟩
def ug(Ab:o.op=.nilCheck x)(hx:vw.ev x=ZA (.one (.pe b o0 n sz e off)))(h:(k {val:=.one (.pe b o0 n sz e off)} kw).holds sp G ρ I)(hg:Good sp cx.sm ρ kw):Sound P sp ρ G I base cx vw o k kw:=by refine⟨_,kw,h,hg,.refl _,OpOk.pure fun j a w _ Ao _ _ _=>⟨a.eval x,Ao x Or _ hx,?_⟩⟩;have hd:=Ao x Or _ hx;obtain⟨a',he,_⟩:=acd (fo:=0) (show(C.pe b o0 n sz e off).den ρ j=ZA (a.eval x)from hd);simp[execOp,Ab,he]
def Wc{o:Nat}(h:(V.one (.pe b o n sz e off)).den ρ j=ZA v):∃kk,j.b b=ZA kk/\v=.pointer (ZA ⟨kk,o+((e.I ρ).toNat*sz+off),ZD⟩):=by simp only[V.den,C.den,Av]at h;obtain⟨kk,h1,h2⟩:=h;exact⟨kk,h1,h2.symm⟩
def wj(hT:∀t i,(t,i)∈cx.ty->TIok P t i)(Ab:o.op=.indexAddr t x y)(hx:vw.ev x=ZA (.one (.ptr b off)))(hy:vw.ev y=ZA (.one (.int k0 e)))(hi:aj t cx.ty=ZA i)(ha:i.arr=ZA (n,et))(AZ:aj et cx.ty=ZA ie)(h:(AB (Jv e n) (fun ok kw=>if ok then k {val:=.one (.pe b off n ie.size e 0)} kw else .panic) kw).holds sp G ρ I)(hg:Good sp cx.sm ρ kw):Sound P sp ρ G I base cx vw o k kw:=by
 obtain⟨Bn,g1,q1,_,l1⟩:=aC _ _ _ h hg;rw[Pt]at g1;split at g1
 .rename_i hr;rw[ne,ax,ax]at hr;have hu:=(hT _ _ (af hi)).arr n et ha;have hs:=(hT _ _ (af AZ)).size;refine⟨_,Bn,g1,q1,l1,OpOk.pure fun j a w _ Ao _ _ _=> ?_⟩;obtain⟨kk,hk,he⟩:=kU (Ao x Or _ hx);have hq:=bS (Ao y Or _ hy);refine⟨.pointer (ZA ⟨kk,off+((e.I ρ).toNat*ie.size+0),ZD⟩),by simp[V.den,C.den,hk],?_⟩;have IX:(⟨kk,off,ZD⟩:Addr).add ((e.I ρ).toNat*ie.size)=⟨kk,off+((e.I ρ).toNat*ie.size+0),ZD⟩:=by rw[bw];simp
  simp[execOp,Ab,he,hq,Instr.indexAt,run_underlying hu,ZR,asIntOf,hr,hs,ZH,IX]
 .exact g1.elim
def aji{j:J}{k0:IntKind}{sz c:Nat}:∀(n:Nat) (cs:List C) (l:E) (vs:List Value),KY k0 sz c n cs=ZA l->Ad ρ j cs=ZA vs->∀m,m<n->vs[m*sz+c]? =ZA (.int k0 ((l.L ρ).getD m 0))
 |0,cs,l,vs,_,_,m,hm=>ak hm Fn
 |n+1,cs,l,vs,h,hd,m,hm=>by
   simp only[KY]at h;split at h
   .rename_i k' a t h1 h2;split at h
    .rename_i hk;cases h;cases m with
     |zero=>obtain⟨v,h3,h4⟩:=dH hd c _ h1;rw[Nat.zero_mul,be,h3,<-h4,av hk];simp[C.den,E.L]
     |succ m=>have ih:=aji n _ t _ h2 (kg hd sz) m Fn;rw[List.getElem?_drop]at ih;rw[show(m+1)*sz+c=sz+(m*sz+c) by rw[Nat.succ_mul];omega,ih];simp[E.L]
    .exact ST
   .exact ST
def vu{j:J}{e:E}{n sz:Nat}{cs:List C}{vs:List Value}(hd:Ad ρ j cs=ZA vs)(h0:0<=e.I ρ)(h1:e.I ρ<(n:Int)):∀(m c:Nat) (ds:List C),Mv e n sz cs c m=ZA ds->ds.length=m/\Ad ρ j ds=ZA ((vs.drop ((e.I ρ).toNat*sz+c)).take m)
 |0,c,ds,h=>by cases h;simp[Ad]
 |m+1,c,ds,h=>by
   simp only[Mv]at h;split at h
   .rename_i k0 a hc;split at h
    next l r h2 h3=>cases h;obtain⟨e1,e2⟩:=vu hd h0 h1 m (c+1) r h3;have e3:=aji n cs l vs h2 hd (e.I ρ).toNat Fn;refine⟨by simp[e1],?_⟩;simp only[Ad,C.den,E.I,e2];have Ap:=(bX.1 e3).1;rw[List.drop_eq_getElem_cons Ap,List.take_succ_cons,(bX.1 e3).2];rfl
    .exact ST
   .exact ST
def afS(hT:∀t i,(t,i)∈cx.ty->TIok P t i)(Ab:o.op=.load t x)(hx:vw.ev x=ZA (.one (.pe b o0 n sz e off)))(hi:aj t cx.ty=ZA i)(CJ:vw.row b o0 (n*sz)=ZA cs)(BC:off+i.size<=sz)
  (h:(AB (Jv e n) (fun ok kw=>if ok then
      (match Mv e n sz cs off i.size with
      |some ds=>if i.agg then k {val:=.agg ds,rd:=ed b o0 (n*sz)} kw else(match ds with
        |[d]=>k {val:=.one d,rd:=ed b o0 (n*sz)} kw
        |_=>.stuck 160)
      |none=>.stuck 161)
      else .stuck 162) kw).holds sp G ρ I) (hg:Good sp cx.sm ρ kw):Sound P sp ρ G I base cx vw o k kw:=by
 obtain⟨Bn,g1,q1,_,l1⟩:=aC _ _ _ h hg;rw[Pt]at g1;split at g1
 .rename_i hr;rw[ne,ax,ax]at hr;have ht:=hT _ _ (af hi);have AG:=vw.rowok _ _ _ _ CJ;split at g1
  .rename_i ds Bw;have cells:∀{j:J} {w:World} {kk:Nat},j.b b=ZA kk->Fb ρ j w vw.ld (ed b o0 (n*sz))->∃us,Ad ρ j ds=ZA us/\us.length=i.size/\∀(m:Nat) u,us[m]? =ZA u->w.cell? ⟨kk,o0+((e.I ρ).toNat*sz+off)+m,ZD⟩=ZA u:=by
    intro j w kk hk A9;obtain⟨vs,hd,-⟩:=ey (P:=P) (ρ:=ρ) hk (n*sz) o0 cs AG w A9 ⟨kk,o0,ZD⟩ 0 #[] (fun m=>by rw[bw];simp);obtain⟨e1,e2⟩:=vu hd hr.1 hr.2 i.size off ds Bw;refine⟨_,e2,by rw[aP e2,e1],fun m u hu=> ?_⟩;rw[List.getElem?_take]at hu;split at hu
    .rw[List.getElem?_drop]at hu;obtain⟨hl,Cs⟩:=jN _ _ _ AG;have Ap:=(bX.1 hu).1;rw[aP hd]at Ap;obtain⟨c0,IZ⟩:∃c0,cs[(e.I ρ).toNat*sz+off+m]? =ZA c0:=⟨_,Az Ap⟩
     have hld:=Cs _ c0 IZ;obtain⟨k',v,BZ,hv,By⟩:=A9 (b,o0+((e.I ρ).toNat*sz+off+m)) (by
      have:∀(n o p:Nat),p<n->(b,o+p)∈ed b o n:=by
       intro n
       induction n with
       |zero=>intro o p hp;omega
       |succ n ih=>
         intro o p hp;cases p with
         |zero=>simp[ed]
         |succ p=>simp only[ed,ZN];exact .inr (by have:=ih (o+1) p Fn;rwa [show o+(p+1)=o+1+p by omega])
      exact this _ _ _ Fn) c0 hld
     simp only at BZ By;rw[hk]at BZ;cases BZ;obtain⟨v',CG,GW⟩:=dH hd _ c0 IZ;rw[hv]at GW;cases GW;rw[CG]at hu;cases hu;rw[ZU];exact By
    .cases hu
   split at g1
   next Bh=>refine⟨_,Bn,g1,q1,l1,OpOk.pure fun j a w _ Ao A9 _ _=> ?_⟩;obtain⟨kk,hk,he⟩:=Wc (Ao x Or _ hx);obtain⟨us,h1,h2,h3⟩:=cells hk A9;refine⟨.agg us.toArray,by simp[V.den,h1],?_⟩;have Fl:=dS (P:=P) (a:=⟨kk,o0+((e.I ρ).toNat*sz+off),ZD⟩) (w:=w) us 0 #[] (fun m u hu=>by rw[be,bw];exact h3 m u hu);rw[h2]at Fl;simp[execOp,Ab,he,Instr.loadAt,ZR,ZH,loadVar,ht.agg,Bh,ht.size,loadCells,Fl]
   .rename_i Bh;split at g1
    .rename_i d;refine⟨_,Bn,g1,q1,l1,OpOk.pure fun j a w _ Ao A9 _ _=> ?_⟩;obtain⟨kk,hk,he⟩:=Wc (Ao x Or _ hx);obtain⟨us,h1,h2,h3⟩:=cells hk A9;simp only[Ad]at h1;cases hdd:d.den ρ j with
     |none=>rw[hdd]at h1;cases h1
     |some v=>rw[hdd]at h1;cases h1;have By:=h3 0 v rfl;rw[ZP]at By;have C0:i.agg=ZC:=Yl;refine⟨v,hdd,?_⟩;simp[execOp,Ab,he,Instr.loadAt,ZR,ZH,loadVar,ht.agg,C0,load,Sem.run,By]
    .exact g1.elim
  .exact g1.elim
 .exact g1.elim
def Dn:Nat->List Value->List Value->List Value
 |off+1,x::xs,us=>x::Dn off xs us
 |0,x::xs,u::us=>u::Dn 0 xs us
 |_,xs,_=>xs
def iR:∀(off:Nat) (xs us:List Value) (p:Nat),(Dn off xs us)[p]? =if off<=p/\p<off+us.length/\p<xs.length then us[p-off]? else xs[p]?
 |off+1,x::xs,us,0=>by simp[Dn]
 |off+1,x::xs,us,p+1=>by
   simp only[Dn,lu,iR off xs us p,YM];by_cases h:off<=p/\p<off+us.length/\p<xs.length
   .rw[ae h,ae Fn];congr 1;omega
   .rw[aa h,aa Fn]
 |0,x::xs,u::us,0=>by simp[Dn]
 |0,x::xs,u::us,p+1=>by
   simp only[Dn,lu,iR 0 xs us p,YM];by_cases h:0<=p/\p<0+us.length/\p<xs.length
   .rw[ae h,ae Fn];simp
   .rw[aa h,aa Fn]
 |0,x::xs,[],p=>by rw[aa (by simp)];rfl
 |0,[],us,p=>by cases us<;>simp[Dn]
 |off+1,[],us,p=>by simp[Dn]
def dP:∀(off:Nat) (xs us:List Value),(Dn off xs us).length=xs.length
 |off+1,x::xs,us=>by simp[Dn,dP off xs us]
 |0,x::xs,u::us=>by simp[Dn,dP 0 xs us]
 |0,x::xs,[]=>rfl
 |0,[],us=>by cases us<;>rfl
 |off+1,[],us=>rfl
def ze{j:J}{c:E}:∀(off:Nat) (xs vc r:List C) (vs us:List Value),FA c off xs vc=ZA r->Ad ρ j xs=ZA vs->Ad ρ j vc=ZA us->Ad ρ j r=ZA (if c.B ρ=ZB then Dn off vs us else vs)
 |off+1,x::xs,vc,r,vs,us,h,h1,h2=>by
   simp only[FA,Av]at h;obtain⟨r',h3,rfl⟩:=h;simp only[Ad]at h1;cases hx:x.den ρ j with
   |none=>rw[hx]at h1;cases h1
   |some v=>
     cases hl:Ad ρ j xs with
     |none=>rw[hx,hl]at h1;cases h1
     |some l=>rw[hx,hl]at h1;cases h1;simp only[Ad,hx,ze off xs vc r' l us h3 hl h2];split<;>simp[Dn]
 |0,xs,[],r,vs,us,h,h1,h2=>by
   cases h2;have:r=xs:=by cases xs<;>simpa[FA]using h.symm
   subst this;rw[h1];cases vs<;>simp[Dn]
 |0,x::xs,y::vc,r,vs,us,h,h1,h2=>by
   cases x<;>first|(simp only[FA]at h;cases h;done)|skip
   cases y<;>first|(simp only[FA]at h;cases h;done)|skip
   rename_i k a k' b;simp only[FA]at h;split at h
   .rename_i hk;rw[Av]at h;obtain⟨r',h3,rfl⟩:=h;simp only[Ad,C.den]at h1 h2;cases hl:Ad ρ j xs with
    |none=>rw[hl]at h1;cases h1
    |some l=>
      cases hm:Ad ρ j vc with
      |none=>rw[hm]at h2;cases h2
      |some m=>rw[hl]at h1;cases h1;rw[hm]at h2;cases h2;simp only[Ad,C.den,E.I,ze 0 xs vc r' l m h3 hl hm];split<;>simp[Dn,av hk]
   .exact ST
 |0,[],y::vc,r,vs,us,h,h1,h2=>by simp[FA]at h
 |off+1,[],vc,r,vs,us,h,h1,h2=>by simp[FA]at h
def aix{j:J}{e:E}{off sz:Nat}{vc:List C}{us:List Value}(hu:Ad ρ j vc=ZA us)(BC:off+us.length<=sz)(h0:0<=e.I ρ):∀(n m0:Nat) (cs ds:List C) (vs:List Value),Km e off sz vc m0 n cs=ZA ds->Ad ρ j cs=ZA vs->vs.length=n*sz->
  Ad ρ j ds=ZA (if m0<=(e.I ρ).toNat/\(e.I ρ).toNat<m0+n then Dn (((e.I ρ).toNat-m0)*sz+off) vs us else vs)
 |0,m0,cs,ds,vs,h,hd,hl=>by cases h;rw[aa Fn,hd]
 |n+1,m0,cs,ds,vs,h,hd,hl=>by
   simp only[Km]at h;split at h
   .rename_i a b h1 h2;cases h;have e1:=ze off _ _ _ _ _ h1 (ng hd sz) hu;have J5:(vs.drop sz).length=n*sz:=by rw[ZV,hl,Nat.succ_mul];omega
    have e2:=aix hu BC h0 n (m0+1) _ _ _ h2 (kg hd sz) J5;have Dp:sz<=vs.length:=Yj;rw[eU e1 e2];congr 1;have hB:(E.eq e (.p (m0:Int))).B ρ=decide ((e.I ρ).toNat=m0):=by simp only[E.B,E.I];rw[ar];simp only[cb,ax];omega
    rw[hB];generalize (e.I ρ).toNat=M;apply List.ext_getElem?;intro p;have tl:(vs.take sz).length=sz:=XS;by_cases hM:M=m0
    .subst hM;rw[ae (by simp),aa Fn,ae Fn,Nat.sub_self,Nat.zero_mul,be,iR];by_cases hp:p<sz
     .rw[AW (by rw[dP,tl];exact hp),iR,tl,List.getElem?_take,ae hp];by_cases hq:off<=p/\p<off+us.length/\p<sz
      .rw[ae hq,ae Fn]
      .rw[aa hq,aa Fn]
     .rw[Bc (by rw[dP,tl];omega),dP,tl,List.getElem?_drop,aa Fn];congr 1;omega
    .rw[aa (by simpa using hM)];by_cases hr:m0+1<=M/\M<m0+1+n
     .rw[ae hr,ae Fn,iR];have hmul:(M-m0)*sz=sz+(M-(m0+1))*sz:=by
       rw[show M-m0=(M-(m0+1))+1 by omega,Nat.succ_mul];omega
      by_cases hp:p<sz
      .rw[AW (by rw[tl];exact hp),List.getElem?_take,ae hp,aa Fn]
      .rw[Bc (by rw[tl];omega),tl,iR,List.getElem?_drop,J5];have Gf:sz+(p-sz)=p:=Fn;rw[Gf];have AE:vs.length=sz+n*sz:=Yj;by_cases hq:(M-(m0+1))*sz+off<=p-sz/\p-sz<(M-(m0+1))*sz+off+us.length/\p-sz<n*sz
       .rw[ae hq,ae Fn];congr 1;omega
       .rw[aa hq,aa Fn]
     .rw[aa hr,aa Fn,List.take_append_drop]
   .exact ST
def F9:Nat->List Value->Array Value->Array Value
 |_,[],c=>c
 |o,v::vs,c=>F9 (o+1) vs (c.setIfInBounds o v)
def uK:∀(vs:List Value) (o:Nat) (c:Array Value) (i:Nat),(F9 o vs c)[i]? =if o<=i/\i<o+vs.length/\i<c.size then vs[i-o]? else c[i]?
 |[],o,c,i=>by rw[aa (by simp only[List.length_nil];omega)];rfl
 |v::vs,o,c,i=>by
   simp only[F9,uK vs (o+1),Array.size_setIfInBounds,YM];rcases Nat.lt_trichotomy i o with h|h|h
   .rw[aa Fn,aa Fn,Array.getElem?_setIfInBounds,aa Fn]
   .subst h;rw[aa Fn,Array.getElem?_setIfInBounds,ae rfl];by_cases hs:i<c.size
    .rw[ae hs,ae Fn];simp
    .rw[aa hs,aa Fn,Array.getElem?_eq_none Fn]
   .by_cases hq:o+1<=i/\i<o+1+vs.length/\i<c.size
    .rw[ae hq,ae Fn,show i-o=(i-(o+1))+1 by omega];rfl
    .rw[aa hq,aa Fn,Array.getElem?_setIfInBounds,aa Fn]
def nz{j:J}{b kk:Nat}(hk:j.b b=ZA kk):∀(cs:List C) (o:Nat) (vs:List Value) (w:World),Ad ρ j cs=ZA vs->tE ρ j (eQ b o cs) w (mapBlock w kk (F9 o vs))/\∀w',tE ρ j (eQ b o cs) w w'->w'=mapBlock w kk (F9 o vs)
 |[],o,vs,w,hd=>by cases hd;have e:mapBlock w kk (F9 o [])=w:=Go.Sort.mapBlock_id w kk _ (fun c e fr _=>rfl);rw[e];exact⟨rfl,fun w' h=>h⟩
 |c::cs,o,vs,w,hd=>by
   simp only[Ad]at hd;cases hc:c.den ρ j with
   |none=>rw[hc]at hd;cases hd
   |some v=>
     cases hl:Ad ρ j cs with
     |none=>rw[hc,hl]at hd;cases hd
     |some l=>
       rw[hc,hl]at hd;cases hd;obtain⟨i1,i2⟩:=nz hk cs (o+1) l (w.setCell ⟨kk,o,ZD⟩ v) hl;have e:mapBlock (w.setCell ⟨kk,o,ZD⟩ v) kk (F9 (o+1) l)=mapBlock w kk (F9 o (v::l)):=by rw[setCell_eq,mapBlock_mapBlock];rfl
       rw[e]at i1 i2;refine⟨⟨kk,v,hk,hc,i1⟩,?_⟩;rintro w' ⟨k2,v2,g1,g2,g3⟩;rw[hk]at g1;cases g1;rw[hc]at g2;cases g2;exact i2 w' g3
def xd{b:Nat}:∀(n o p:Nat),p<n->(b,o+p)∈ed b o n
 |0,_,_,h=>ak h Fn
 |n+1,o,0,_=>by simp[ed]
 |n+1,o,p+1,h=>by simp only[ed,ZN];have:=xd (b:=b) n (o+1) p Fn;rw[show o+1+p=o+(p+1) by omega]at this;exact .inr this
def xb{b:Nat}:∀(cs:List C) (o p:Nat) (c:C),cs[p]? =ZA c->(b,o+p,c)∈eQ b o cs
 |[],_,_,_,h=>by simp at h
 |x::cs,o,0,c,h=>by simp at h;subst h;simp[eQ]
 |x::cs,o,p+1,c,h=>by simp only[eQ,ZN];have:=xb (b:=b) cs (o+1) p c Xw;rw[show o+1+p=o+(p+1) by omega]at this;exact .inr this
def abK{b:Nat}:∀(cs:List C) (o:Nat) (q:Nat×Nat×C),q∈eQ b o cs->q.1=b/\∃p,p<cs.length/\q.2.1=o+p
 |[],_,q,h=>by simp[eQ]at h
 |x::cs,o,q,h=>by
   simp only[eQ,ZN]at h;rcases h with rfl|h
   .exact⟨rfl,0,by simp,rfl⟩
   .obtain⟨h1,p,h2,h3⟩:=abK cs (o+1) q h;exact⟨h1,p+1,by simp;omega,by omega⟩
def ado(hT:∀t i,(t,i)∈cx.ty->TIok P t i)(Ab:o.op=.store t x y)(hx:vw.ev x=ZA (.one (.pe b o0 n sz e off))){v:V}(hy:vw.ev y=ZA v)(hi:aj t cx.ty=ZA i)(CJ:vw.row b o0 (n*sz)=ZA cs)
  (hf:v.flat=ZB) (hn:v.cells.length=i.size) (BC:off+i.size<=sz) (CQ:cs.length=n*sz)
  (h:(AB (Jv e n) (fun ok kw=>if ok then
      (match Km e off sz v.cells 0 n cs with
      |some ds=>if ds.all C.solid&&(cs.all C.solid&&v.cells.all C.solid)then k {val:=.one .undef,rd:=ed b o0 (n*sz),wr:=eQ b o0 ds} kw else .stuck 165
      |none=>.stuck 166)
      else .stuck 167) kw).holds sp G ρ I) (hg:Good sp cx.sm ρ kw):Sound P sp ρ G I base cx vw o k kw:=by
 obtain⟨Bn,g1,q1,_,l1⟩:=aC _ _ _ h hg;rw[Pt]at g1;split at g1
 .rename_i hr;rw[ne,ax,ax]at hr;have ht:=hT _ _ (af hi);have AG:=vw.rowok _ _ _ _ CJ;split at g1
  .rename_i ds Bw;split at g1
   .rename_i El;simp only[ne]at El;refine⟨_,Bn,g1,q1,l1,fun j a w _ Ao A9 BS _ _ K Q hK=> ?_⟩;obtain⟨kk,hk,he⟩:=Wc (Ao x Or _ hx);have hd:=V.cells_ok (Ao y Or v hy) hf;obtain⟨vs,EP,-⟩:=ey (P:=P) (ρ:=ρ) hk (n*sz) o0 cs AG w A9 ⟨kk,o0,ZD⟩ 0 #[] (fun m=>by rw[bw];simp);have hul:(a.eval y).cells.toList.length=i.size:=by rw[aP hd,hn]
    have Lg:vs.length=n*sz:=by rw[aP EP,CQ]
    have FR:=aix hd (by rw[hul];exact BC) hr.1 n 0 cs ds vs Bw EP Lg;rw[ae Fn,Nat.sub_zero]at FR;generalize hM:(e.I ρ).toNat=M at *;have hMn:M<n:=Fn;have hMs:M*sz+off+i.size<=n*sz:=by have:(M+1)*sz<=n*sz:=Nat.mul_le_mul_right sz hMn;rw[Nat.succ_mul]at this;omega
    have old:∀p,p<n*sz->w.cell? ⟨kk,o0+p,ZD⟩=vs[p]? :=by
     intro p hp;obtain⟨hl,Cs⟩:=jN _ _ _ AG;obtain⟨c0,IZ⟩:∃c0,cs[p]? =ZA c0:=⟨_,Az Fn⟩
     obtain⟨k',v',BZ,CG,By⟩:=A9 (b,o0+p) (xd _ _ _ hp) c0 (Cs _ c0 IZ);simp only at BZ By;rw[hk]at BZ;cases BZ;obtain⟨v2,Ic,E5⟩:=dH EP p c0 IZ;rw[CG]at E5;cases E5;rw[By,Ic]
    have hdl:ds.length=n*sz:=by have:=aP FR;rw[dP]at this;omega
    have Kf:KQ j w (eQ b (o0+(M*sz+off)) v.cells):=by
     intro q hq;obtain⟨e1,p,e2,e3⟩:=abK _ _ _ hq;obtain⟨c1,hc1⟩:∃c1,ds[M*sz+off+p]? =ZA c1:=⟨_,Az Fn⟩
     obtain⟨k3,u3,f1,f2,f3⟩:=BS _ (xb ds o0 _ c1 hc1);refine⟨k3,u3,by rw[e1];exact f1,?_,?_⟩
     .rw[e3,ZU];exact f2
     .rw[e3,ZU];exact f3
    obtain⟨w',h1,h2⟩:=dD (P:=P) hk ⟨kk,o0+(M*sz+off),ZD⟩ v.cells (o0+(M*sz+off)) 0 _ w (fun m=>by rw[bw];simp) hd El.2.2 Kf;have e1:=(nz hk v.cells _ _ w hd).2 w' h1;have e2:=(nz hk ds o0 _ w FR).1;have e3:mapBlock w kk (F9 (o0+(M*sz+off)) (a.eval y).cells.toList)=mapBlock w kk (F9 o0 (Dn (M*sz+off) vs (a.eval y).cells.toList)):=by
     refine mapBlock_congr w kk _ _ fun c ec fr hc=> ?_;have oldc:∀p,p<n*sz->c[o0+p]? =vs[p]? :=fun p hp=>by have:=old p hp;rw[<-this];simp[World.cell?,hc]
     apply Array.ext_getElem?;intro q;rw[uK,uK,dP,Lg];by_cases hq:o0<=q/\q<o0+n*sz/\q<c.size
     .rw[ae hq,iR];by_cases E8:M*sz+off<=q-o0/\q-o0<M*sz+off+(a.eval y).cells.toList.length/\q-o0<vs.length
      .rw[ae E8,ae Fn];congr 1;omega
      .rw[aa E8,aa Fn,<-oldc (q-o0) Fn];congr 1;omega
     .rw[aa hq,aa Fn]
    rw[e3]at e1;have Ns:(a.eval y).cells.size=i.size:=by rw[<-Array.length_toList];exact hul
    refine rV (w':=w') ?_ (hK _ j w' rfl ⟨rfl,w,Ext.refl w,by rw[e1];exact e2⟩);simp[execOp,Ab,he,Instr.storeAt,ZR,ZH,storeVar,ht.size,Ns,h2]
   .exact g1.elim
  .exact g1.elim
 .exact g1.elim
end
section
variable {P:Program}{sp:Spec}{ρ:Env}{G:Env->E->Prop}{I:Nat->List Dt->Prop}{base:Nat}{cx:Cx}{vw:Vw}{o:Oper}{k:Eff->Kw->Tr}
def V8{f:E->E->E}{g:Int->Int->Int}(hf:∀a b,(f a b).I ρ=g (a.I ρ) (b.I ρ)){m2:Value->Value->Sem Value}{k0:IntKind}(hm:∀x y w,(m2 (.int k0 x) (.int k0 y)).run P w=.ok (.int k0 (g x y)) w){j:J}:
  ∀(l:List V) (e e':E) (us:List Value),Mf f k0 e l=ZA e'->(∀(i:Nat) x u,l[i]? =ZA x->us[i]? =ZA u->x.den ρ j=ZA u)->us.length=l.length->∀w,(us.foldlM m2 (.int k0 (e.I ρ))).run P w=.ok (.int k0 (e'.I ρ)) w
 |[],e,e',us,h,hu,hl,w=>by
   cases h;cases us with
   |nil=>simp
   |cons _ _=>cases hl
 |v::l,e,e',us,h,hu,hl,w=>by
   cases us with
   |nil=>cases hl
   |cons u us=>
     cases v with
     |one c=>
       cases c with
       |int kd x=>
         simp only[Mf]at h;split at h
         next hk=>have:=av hk;subst this;have h1:=bS (hu 0 _ u rfl rfl);subst h1;have h2:=V8 hf hm l (f e x) e' us h (fun i y u hy Ib=>hu (i+1) y u Yu (by simpa using Ib)) Ya w;rw[hf]at h2;simp only[List.foldlM_cons,ZH,hm,Result.andThen_ok,h2]
         .exact ST
       |_=>simp[Mf]at h
     |_=>simp[Mf]at h
def fR:(c.args.map a.eval).toList=c.args.toList.map a.eval:=Array.toList_map ..
def amX(mx:Bool)(Ab:o.op=.call c)(hc:c.callee=.builtin (if mx then .max else .min)){e':E}{l:List V}(hl:DM vw.ev c.args.toList=ZA (.one (.int k0 e)::l))(he:Mf (if mx then Pp else xB) k0 e l=ZA e')(h:(k {val:=.one (.int k0 e')} kw).holds sp G ρ I)(hg:Good sp cx.sm ρ kw):Sound P sp ρ G I base cx vw o k kw:=by
 refine⟨_,kw,h,hg,.refl _,OpOk.pure fun j a w _ Ao _ _ _=>⟨.int k0 (e'.I ρ),rfl,?_⟩⟩;obtain⟨h1,h2⟩:=iF (j:=j) (a:=a) hl (fun x hx=>Ao x Xn);obtain⟨u,us,Lf⟩:∃u us,c.args.toList.map a.eval=u::us:=by
  cases hm:c.args.toList.map a.eval with
  |nil=>rw[hm]at h2;cases h2
  |cons u us=>exact⟨u,us,rfl⟩
 rw[Lf]at h1 h2;have hu:=bS (h1 0 _ u rfl rfl);subst hu;have LO:(c.args.map a.eval).toList=.int k0 (e.I ρ)::us:=by rw[fR,Lf]
 cases mx with
 |true=>have h3:=V8 (P:=P) (ρ:=ρ) (f:=Pp) (g:=max) (aqU ρ) (m2:=Builtin.max2) (k0:=k0) (fun x y w=>by simp[Builtin.max2,qM.2]) l e e' us Yw (fun i x u hx hu=>h1 (i+1) x u Xx XW) XJ w;simp only[execOp,Ab,resolve,hc,aW,ZH,Sem.run_pure,Result.andThen_ok,invoke,builtin,Builtin.max_,LO,h3]
 |false=>have h3:=V8 (P:=P) (ρ:=ρ) (f:=xB) (g:=min) (ahV ρ) (m2:=Builtin.min2) (k0:=k0) (fun x y w=>by simp[Builtin.min2,qM.1]) l e e' us Yw (fun i x u hx hu=>h1 (i+1) x u Xx XW) XJ w;simp only[execOp,Ab,resolve,hc,ZY,dz,ZH,Sem.run_pure,Result.andThen_ok,invoke,builtin,Builtin.min_,LO,h3]
def au6{ks:List CK}(hv:Vk ρ vk)(hr:(∀(n:Nat) k,ks[n]? =ZA (.int k)->Aj k (ρ.i (vk.length+n))=ZB)/\∀(n:Nat) k ty,ks[n]? =ZA (.sl k ty)->RowsIn k (ρ.l (vk.length+n))):Vk ρ (vk++ks.map yg):=by
 constructor
 .intro n kd h;rcases bn n vk.length with Ap|Dp
  .rw[AW Ap]at h;exact hv.i n kd h
  .rw[Bc Dp,iO,Av]at h;obtain⟨c,hc,hk⟩:=h;cases c<;>simp only[yg]at hk<;>first|cases hk|skip
   have:=hr.1 _ _ hc;rwa [show vk.length+(n-vk.length)=n by omega]at this
 .intro n kd h;rcases bn n vk.length with Ap|Dp
  .rw[AW Ap]at h;exact hv.l n kd h
  .rw[Bc Dp,iO,Av]at h;obtain⟨c,hc,hk⟩:=h;cases c<;>simp only[yg]at hk<;>first|cases hk|skip
   have:=hr.2 _ _ _ hc;rwa [show vk.length+(n-vk.length)=n by omega]at this
def ai9(hv:Vk ρ vk){rw:Nat->Option RowOb}{k:CK}{c:C}{t:E}(h:G8 vk rw k c t=ZA e):KX k (e.D ρ) (t.D ρ):=by
 unfold G8 at h;split at h
 .split at h
  next hk=>cases h;simp only[ne]at hk;exact⟨_,rfl,E.rng_ok hv _ hk.2⟩
  .exact ST
 .cases h;exact⟨_,rfl⟩
 .split at h
  .cases h;exact rfl
  .exact ST
 .split at h
  .cases h;exact rfl
  .exact ST
 .rw[Av]at h;obtain⟨l,hl,rfl⟩:=h;refine⟨_,rfl,?_⟩;unfold jr at hl;split at hl
  .split at hl
   .split at hl
    next hq=>simp only[ne]at hq;cases hl;exact E.lok_ok hv _ hq.2.2
    .cases hl
   .cases hl
  .cases hl;intro r hr;cases hr
  .cases hl
 .cases h;exact rfl
 .cases h;exact rfl
 .split at h
  .split at h
   next hq=>simp only[ne]at hq;cases h;exact⟨rfl,hq.2.2⟩
   .exact ST
  .exact ST
 .exact ST
def acP{vk:List VK}(hv:Vk ρ vk){rw:Nat->Option RowOb}:∀{ks:List CK} {cs:List C} {t e:E},ya vk rw ks cs t=ZA e->OL ks (e.D ρ) (t.D ρ)
 |[],[],t,e,h=>by cases h;exact rfl
 |k::ks,c::cs,t,e,h=>by simp only[ya,cW]at h;obtain⟨e',h1,h2⟩:=h;exact⟨_,ai9 hv h2,acP hv h1⟩
def TL(hv:Vk ρ vk){rw:Nat->Option RowOb}{ks:List CK}{t:E}(h:HQ vk rw ks cs t=ZA e):OL ks (e.D ρ) (t.D ρ):=acP hv (xZ h)
def nT{j:J}{l e:E}:∀(ks:List CE) (c0:Nat),∃vs,Ad ρ j (eK l e c0 ks)=ZA vs/\vs.length=ks.length/\∀(m:Nat) ck,ks[m]? =ZA ck->vs[m]? =ZA (fv ck (gt (l.R ρ) (e.I ρ) (c0+m)))
 |[],c0=>⟨[],rfl,rfl,fun m ck h=>by simp at h⟩
 |k::ks,c0=>by
   obtain⟨vs,h1,h2,h3⟩:=nT (j:=j) (l:=l) (e:=e) ks (c0+1);refine⟨fv k (gt (l.R ρ) (e.I ρ) c0)::vs,by simp only[eK,Ad,pj,h1],by simp[h2],fun m ck h=> ?_⟩;cases m with
   |zero=>simp at h;subst h;simp
   |succ m=>have:=h3 m ck Xw;simpa[ZU,Nat.add_comm 1 m]using this
def auM(hv:Vk ρ vk){ty id z:Nat}{t x:E}(h:PI vk vw ks id z e t=ZA x):KX (.el ks ty) (x.D ρ) (t.D ρ):=by
 unfold PI at h;split at h
 .rename_i r hr;split at h
  .rw[Av]at h;obtain⟨q,hq,rfl⟩:=h;obtain⟨vs,h1,_⟩:=nT (ρ:=ρ) (j:=⟨fun _=>ZD,fun _=>ZD,fun _=>ZD,Gh.zero⟩) (l:=r.l) (e:=e) ks 0;exact⟨q.L ρ,rfl,(jP hv hq h1).2⟩
  .exact ST
 .exact ST
def auL(hv:Vk ρ vk){ty id z:Nat}{t x:E}(A3:RrOk ρ base j w vw.rw [id])(CD:∀r,vw.sw id=ZA r->(Fo e r.l).B ρ=ZB)(h:PI vk vw ks id z e t=ZA x){u:Value}(hu:(V.one (.ep id z e 0)).den ρ j=ZA u):yf w (.el ks ty) (x.D ρ) u (t.D ρ):=by
 unfold PI at h;split at h
 .rename_i r hr;split at h
  .rename_i hq;rw[Av]at h;obtain⟨q,hx,rfl⟩:=h;simp only[ne]at hq;have Bx:=bQ hq.1;have hz:=Ah hq.2;subst Bx hz;obtain⟨s,hs,Ai⟩:=A3.sl id (by simp) r hr;obtain⟨a,ha,rfl⟩:=oV hs hu;obtain⟨vs,h1,h2,h3⟩:=nT (ρ:=ρ) (j:=j) (l:=r.l) (e:=e) r.ks 0;obtain⟨h4,h5⟩:=jP hv hx h1;have hb:=CD r hr;rw[rQ]at hb;simp only[ne,ax]at hb;have Ej:0<s.n:=by have:=Ai.n;omega
   have hc:s.c≠0:=by have:=Ai.rd.2.1;omega
   refine⟨q.L ρ,_,rfl,rfl,h5,Ai.lt _ (bI (nm hc ?_)),fun c u hcu=> ?_⟩
   .simp only[SV.v,Value.ownBlock,ha];unfold Addr.add;split<;>rfl
   .have E6:flat r.ks [q.L ρ]=vs:=by rw[h4];simp[flat]
    rw[E6]at hcu;have Ap:c<r.ks.length:=by rw[<-h2];exact(bX.1 hcu).1
    have D9:=Az Ap;have h6:=h3 c _ D9;rw[hcu]at h6;cases h6;rw[be,bC,ZP];exact Ai.rd.2.2.2.2 a ha _ _ (mX D9 Ai.rows.row Fn)
  .exact ST
 .exact ST
def alZ{x:V}{xs:List V}(h:(Ki vw (x::xs)).B ρ=ZB):(Ki vw xs).B ρ=ZB/\∀id z e,x=.one (.ep id z e 0)->∀r,vw.sw id=ZA r->(Fo e r.l).B ρ=ZB:=by
 by_cases hx:∃id z e,x=.one (.ep id z e 0)
 .obtain⟨id,z,e,rfl⟩:=hx;simp only[Ki]at h;split at h
  next r hr=>rw[dQ,ne]at h;refine⟨h.2,fun IH z' e' he r' AM=> ?_⟩;cases he;rw[hr]at AM;cases AM;exact h.1
  next hr=>refine⟨h,fun IH z' e' he r' AM=> ?_⟩;cases he;rw[hr]at AM;cases AM
 .have e:Ki vw (x::xs)=Ki vw xs:=by
   cases x with
   |one c=>cases c with
     |ep id z e o=>cases o with
       |zero=>exact(hx ⟨_,_,_,rfl⟩).elim
       |succ o=>rfl
     |_=>rfl
   |_=>rfl
  rw[e]at h;exact⟨h,fun id z e he=>(hx ⟨_,_,_,he⟩).elim⟩
def ajb{vk:List VK}(hv:Vk ρ vk):∀{ss:List Sh} {xs:List V} {e:E},HP vk vw ss xs=ZA e->Py ss (e.D ρ)
 |[],[],e,h=>by cases h;exact rfl
 |s::ss,x::xs,e,h=>by
   simp only[HP,cW]at h;obtain⟨e',h1,h2⟩:=h;refine⟨e'.D ρ,?_,ajb hv h1⟩;unfold MN at h2;split at h2
   .exact TL hv h2
   .exact⟨_,auM hv h2,rfl⟩
   .exact⟨_,ai9 hv h2,rfl⟩
   .split at h2
    .rw[cW]at h2;obtain⟨cs,_,h2⟩:=h2;exact TL hv h2
    .exact XO
   .rw[cW]at h2;obtain⟨cs,_,h2⟩:=h2;split at h2
    .exact TL hv h2
    .exact XO
   .exact XO
def ai8(hv:Vk ρ vk){k:CK}{c:C}{t:E}(A3:RrOk ρ base j w vw.rw (fZ [c]))(hd:k=.any->∃v,c.den ρ j=ZA v)(h:G8 vk vw.tw k c t=ZA e):∃v,c.den ρ j=ZA v/\yf w k (e.D ρ) v (t.D ρ):=by
 unfold G8 at h;split at h
 .split at h
  next hk=>cases h;simp only[ne]at hk;refine⟨_,rfl,_,rfl,?_,E.rng_ok hv _ hk.2⟩;rw[av hk.1]
  .exact ST
 .cases h;exact⟨_,rfl,_,rfl,rfl⟩
 .split at h
  next hg=>cases h;refine⟨_,rfl,rfl,?_⟩;rw[Ah hg]
  .exact ST
 .split at h
  next hg=>cases h;simp only[ne]at hg;refine⟨_,rfl,rfl,?_⟩;rw[av hg.1,cF hg.2];rfl
  .exact ST
 .rw[Av]at h;obtain⟨l,hl,rfl⟩:=h;unfold jr at hl;split at hl
  .rename_i id;split at hl
   .rename_i r hr;split at hl
    .rename_i hq;simp only[ne]at hq;cases hl;obtain⟨EZ,Dq⟩:=Vw.tw_some hr;obtain⟨s,hs,Ai,hz⟩:=A3 id (by simp[fZ]) r EZ;have Bx:=bQ hq.1;subst Bx;refine⟨s.v,by simp[C.den,hs],_,s,rfl,rfl,?_,?_,Ai.rows,fun k hk=>Ai.lt k (bI hk)⟩
     .rcases cK r.ks with⟨_,h1⟩|⟨_,h1⟩
      .exact(Ai.2.2 (Dq.trans h1)).n
      .exact(Ai.1 (Dq.trans h1)).n
     .unfold TRow;rcases cK r.ks with⟨_,h1⟩|⟨_,h1⟩
      .rw[h1];exact(Ai.2.2 (Dq.trans h1)).told ⟨hz.1,hz.2.1⟩
      .rw[h1];exact(Ai.1 (Dq.trans h1)).rd
    .cases hl
   .cases hl
  .cases hl;refine⟨_,rfl,[],⟨ZD,0,0,[]⟩,rfl,rfl,rfl,TRow.nil,⟨fun r hr=>(by cases hr),by simp⟩,fun k hk=>(by cases hk)⟩
  .cases hl
 .cases h;exact⟨_,rfl,rfl,rfl⟩
 .cases h;obtain⟨v,hv⟩:=hd rfl;exact⟨v,hv,rfl⟩
 .rename_i L id;split at h
  .rename_i r hr;split at h
   .rename_i hq;simp only[ne]at hq;cases h;obtain⟨EZ,Dq⟩:=Vw.tw_some hr;obtain⟨s,hs,Ai,hz⟩:=A3 id (by simp[fZ]) r EZ;have Bx:=bQ hq.1.1;subst Bx;obtain⟨hR,AH,hp,Dj⟩:=zC (ρ:=ρ) hq.2.2;have hl:r.l.R ρ=L:=by
     rcases(eu _ _).mp hq.2.1 with h1|h1
     .exact(congrArg (E.R ρ) (E.same_eq h1)).trans hR
     .rw[E.same_eq h1];exact as9 (by have:=hq.2.2;simp only[In,ne]at this;exact this.1)
    have LR:=Ai.1 (Dq.trans Dj);refine⟨s.v,by simp[C.den,hs],rfl,hq.2.2,s,rfl,?_,?_,fun k hk=>Ai.lt k (bI hk)⟩
    .rw[<-hl];exact LR.n
    .unfold TRow;rw[Dj,<-hl];exact LR.rd
   .exact ST
  .exact ST
 .exact ST
def RrOk.mono{rw:Nat->Option RowOb}{l l':List Nat}(h:RrOk ρ base j w rw l)(hs:∀x∈l',x∈l):RrOk ρ base j w rw l':=fun id E7 r hr=>h id (hs id E7) r hr
def sj{c:C}:(∀x∈fZ [c],x∈fZ (c::cs))/\∀x∈fZ cs,x∈fZ (c::cs):=by cases c<;>simp[fZ]<;>intro x hx<;>exact .inr hx
def acO{vk:List VK}(hv:Vk ρ vk){j:J}{w:World}:∀{ks:List CK} {cs:List C} {t e:E},RrOk ρ base j w vw.rw (fZ cs)->(∀c∈cs,CK.any∈ks->∃v,c.den ρ j=ZA v)->ya vk vw.tw ks cs t=ZA e->∃vs,Ad ρ j cs=ZA vs/\lc w ks (e.D ρ) vs (t.D ρ)
 |[],[],t,e,_,_,h=>by cases h;exact⟨[],rfl,rfl,rfl⟩
 |k::ks,c::cs,t,e,A3,hd,h=>by simp only[ya,cW]at h;obtain⟨e',h1,h2⟩:=h;obtain⟨vs,h3,h4⟩:=acO hv (A3.mono sj.2) (fun c hc ha=>hd c (cm _ hc) (cm _ ha)) h1;obtain⟨v,h5,h6⟩:=ai8 hv (A3.mono sj.1) (fun e=>hd c bG (by rw[e];exact bG)) h2;exact⟨v::vs,by simp[Ad,h3,h5],v,vs,_,rfl,h6,h4⟩
def TK(hv:Vk ρ vk){ks:List CK}{t:E}(A3:RrOk ρ base j w vw.rw (fZ cs))(hd:∀c∈cs,CK.any∈ks->∃v,c.den ρ j=ZA v)(h:HQ vk vw.tw ks cs t=ZA e):∃vs,Ad ρ j cs=ZA vs/\lc w ks (e.D ρ) vs (t.D ρ):=acO hv A3 hd (xZ h)
def nR{j:J}{w:World}{b kk:Nat}(hj:j.b b=ZA kk):∀{n off:Nat} {cs:List C},jO vw.ld b off n=ZA cs->Fb ρ j w vw.ld (ed b off n)->cs.length=n/\∃vs,Ad ρ j cs=ZA vs/\∀(m:Nat) u,vs[m]? =ZA u->w.cell? ⟨kk,off+m,ZD⟩=ZA u
 |0,off,cs,h,_=>by cases h;exact⟨rfl,[],rfl,fun m u hu=>by simp at hu⟩
 |n+1,off,cs,h,A9=>by
   simp only[jO]at h;cases hc:vw.ld b off with
   |none=>rw[hc]at h;cases h
   |some c=>
     cases hl:jO vw.ld b (off+1) n with
     |none=>rw[hc,hl]at h;cases h
     |some l=>
       rw[hc,hl]at h;cases h;obtain⟨k',v,h1,h2,h3⟩:=A9 (b,off) (by simp[ed]) c hc;simp only at h1 h3;rw[hj]at h1;cases h1;obtain⟨e0,vs,e1,e2⟩:=nR hj hl (fun p hp=>A9 p (by simp[ed];exact .inr hp));refine⟨by simp[e0],v::vs,by simp[Ad,h2,e1],fun m u hu=> ?_⟩;cases m with
       |zero=>simp at hu;subst hu;exact h3
       |succ m=>have:=e2 m u XW;rwa [show off+(m+1)=off+1+m by omega]
def aja{vk:List VK}(hv:Vk ρ vk){j:J}{w:World}:∀{ss:List Sh} {xs:List V} {e:E},RrOk ρ base j w vw.rw (iG vw ss xs)->Fb ρ j w vw.ld (vB ss xs)->Mo sp.hw ρ j w vw.fb->HP vk vw ss xs=ZA e->(Ki vw xs).B ρ=ZB->∀us:List Value,(∀(i:Nat) x u,xs[i]? =ZA x->us[i]? =ZA u->x.den ρ j=ZA u)->us.length=xs.length->nN w ss (e.D ρ) us
 |[],[],e,_,_,_,h,_,us,hu,hl=>by
   cases h;cases us with
   |nil=>exact⟨rfl,rfl⟩
   |cons _ _=>cases hl
 |s::ss,x::xs,e,A3,A9,Du,h,CD,us,hu,hl=>by
   obtain⟨Gy,hin2⟩:=alZ CD;simp only[HP,cW]at h;obtain⟨e',h1,h2⟩:=h;cases us with
   |nil=>cases hl
   |cons u us=>
     have h7:=hu 0 x u rfl rfl;have tail:RrOk ρ base j w vw.rw (iG vw ss xs)->Fb ρ j w vw.ld (vB ss xs)->nN w ss (e'.D ρ) us:=fun a b=>aja hv a b Du h1 Gy us (fun i x u hx Ib=>hu (i+1) x u Xx (by simpa using Ib)) Ya
     unfold MN at h2;split at h2
     .rename_i ks cs;have Ek:RrOk ρ base j w vw.rw (fZ cs++iG vw ss xs):=A3;have PX:∀c∈cs,CK.any∈ks->∃v,c.den ρ j=ZA v:=fun c hc _=>by
       simp only[V.den,Av]at h7;obtain⟨vs,h8,_⟩:=h7;obtain⟨i,hi⟩:=List.getElem?_of_mem hc;obtain⟨v,_,hv⟩:=dH h8 i c hi;exact⟨v,hv⟩
      obtain⟨vs,h3,h4⟩:=TK hv (Ek.mono (fun x hx=>YZ _ hx)) PX h2;simp only[V.den,h3,ZK,aU]at h7;exact⟨vs,us,_,by rw[h7],h4,tail (Ek.mono (fun x hx=>ZW _ hx)) A9⟩
     next ks ty id z e0=>have Ek:RrOk ρ base j w vw.rw (fZ [.ep id z e0 0]++iG vw ss xs):=A3;exact⟨_,us,_,rfl,auL hv (Ek.mono (fun x hx=>YZ _ hx)) (hin2 id z e0 rfl) h2 h7,tail (Ek.mono (fun x hx=>ZW _ hx)) A9⟩
     .rename_i kc c _;have E0:∀x∈fZ [c]++iG vw ss xs,x∈iG vw (.one kc::ss) (.one c::xs):=by
       intro x hx;cases c<;>exact hx
      have Ek:=A3.mono E0;obtain⟨v,h3,h4⟩:=ai8 hv (Ek.mono (fun x hx=>YZ _ hx)) (fun _=>⟨u,h7⟩) h2;have h7':c.den ρ j=ZA u:=h7;rw[h3]at h7';cases h7';have Dv:Fb ρ j w vw.ld (vB ss xs):=by intro p hp;refine A9 p ?_;cases c<;>exact hp
      exact⟨_,us,_,rfl,h4,tail (Ek.mono (fun x hx=>ZW _ hx)) Dv⟩
     .rename_i ks b;split at h2
      .rename_i Ej;rw[cW]at h2;obtain⟨cs,CJ,h2⟩:=h2;have Ek:RrOk ρ base j w vw.rw (fZ cs++iG vw ss xs):=by
        have:iG vw (.ptr ks::ss) (.one (.ptr b 0)::xs)=fZ cs++iG vw ss xs:=by simp only[iG,CJ]
        rw[<-this];exact A3
       have Qp:Fb ρ j w vw.ld (ed b 0 ks.length):=fun p hp=>A9 p (YZ _ hp);have hrd2:Fb ρ j w vw.ld (vB ss xs):=fun p hp=>A9 p (ZW _ hp);obtain⟨kk,hk,rfl⟩:=kU h7;have PX:∀c∈cs,CK.any∈ks->∃v,c.den ρ j=ZA v:=fun c hc _=>by obtain⟨_,vs,h8,_⟩:=nR (ρ:=ρ) (w:=w) hk (vw.rowok _ _ _ _ CJ) Qp;obtain⟨i,hi⟩:=List.getElem?_of_mem hc;obtain⟨v,_,hv⟩:=dH h8 i c hi;exact⟨v,hv⟩
       obtain⟨vs,h3,h4⟩:=TK hv (Ek.mono (fun x hx=>YZ _ hx)) PX h2;obtain⟨AE,Cs⟩:=jN _ _ _ (vw.rowok _ _ _ _ CJ);have mem:∀(n o m:Nat),m<n->(b,o+m)∈ed b o n:=by
        intro n
        induction n with
        |zero=>intro o m hm;omega
        |succ n ih=>
          intro o m hm;cases m with
          |zero=>simp[ed]
          |succ m=>simp only[ed,ZN];right;rw[show o+(m+1)=o+1+m by omega];exact ih (o+1) m Fn
       have cell:∀o u,vs[o]? =ZA u->w.cell? ⟨kk,o,ZD⟩=ZA u:=by
        intro o u hou;have Ap:o<cs.length:=by rw[<-aP h3];exact(bX.1 hou).1
        have hc:=Az Ap;have hld:=Cs o _ hc;obtain⟨k',v,g1,g2,g3⟩:=Qp (b,0+o) (mem _ 0 o Fn) _ hld;simp only at g1 g3;rw[hk]at g1;cases g1;obtain⟨u',Ib,GW⟩:=dH h3 o _ hc;rw[hou]at Ib;cases Ib;rw[g2]at GW;cases GW;rw[be]at g3;exact g3
       have Ap:kk<w.heap.size:=by
        have h0:0<vs.length:=by rw[aP h3];omega
        exact World.block_lt_of_cell? w ⟨kk,0,ZD⟩ (cell 0 vs[0] (Az h0))
       exact⟨kk,vs,us,_,rfl,h4,Ap,cell,tail (Ek.mono (fun x hx=>ZW _ hx)) hrd2⟩
      .exact XO
     .rename_i ks b;rw[cW]at h2;obtain⟨cs,CJ,h2⟩:=h2;have Ek:RrOk ρ base j w vw.rw (fZ cs++iG vw ss xs):=by
       have:iG vw (.ptr ks::ss) (.one (.fp b 0)::xs)=fZ cs++iG vw ss xs:=by simp only[iG,CJ]
       rw[<-this];exact A3
      split at h2
      rotate_left
      .exact XO
      rename_i El;obtain⟨kk,hk,rfl⟩:=Pv h7;obtain⟨k',Pb,g1,g2,g3,g4⟩:=Du.2 b cs CJ;have PX:∀c∈cs,CK.any∈ks->∃v,c.den ρ j=ZA v:=fun c hc _=>by obtain⟨i,hi⟩:=List.getElem?_of_mem hc;obtain⟨v,_,hv⟩:=dH g3 i c hi;exact⟨v,hv⟩
      obtain⟨vs,h3,h4⟩:=TK hv (Ek.mono (fun x hx=>YZ _ hx)) PX h2;rw[hk]at g1;cases g1;rw[h3]at g3;cases g3;exact⟨kk,_,us,_,rfl,h4,g2,fun o u hu=>g4 o u hu (by
       have Ap:o<cs.length:=by rw[<-aP h3];exact(bX.1 hu).1
       unfold jI;rw[bh,Az Ap];exact Co.1 El _ (List.getElem_mem _)),tail (Ek.mono (fun x hx=>ZW _ hx)) A9⟩
     .exact XO
def kT(v0:Nat):∀(ks:List CK) (n:Nat),(bE v0 n ks).length=(ks.filter CK.isSl).length
 |[],_=>rfl
 |k::ks,n=>by have ih:=kT v0 ks (n+1);cases k<;>simp[bE,CK.isSl,List.filter_cons,ih]
def lA(v0:Nat):∀(ks:List CK) (n i:Nat) (r:RowOb),(bE v0 n ks)[i]? =ZA r->r.own=ZB
 |[],_,i,r,h=>by simp[bE]at h
 |k::ks,n,i,r,h=>by
   cases k with
   |sl a b=>
     cases i with
     |zero=>simp[bE]at h;rw[<-h]
     |succ i=>exact lA v0 ks (n+1) i r (by simpa[bE]using h)
   |_=>exact lA v0 ks (n+1) i r h
def nU(v0:Nat):∀(ks:List CK) (n i:Nat) (r:RowOb),(bE v0 n ks)[i]? =ZA r->r.kd=CO r.ks
 |[],_,i,r,h=>by simp[bE]at h
 |k::ks,n,i,r,h=>by
   cases k with
   |sl a b=>
     cases i with
     |zero=>simp[bE]at h;rw[<-h]
     |succ i=>exact nU v0 ks (n+1) i r (by simpa[bE]using h)
   |_=>exact nU v0 ks (n+1) i r h
def af3(hS:∀s∈cx.sm,SmOk P sp s)(AO:∀s∈cx.sm,∀s'∈cx.sm,s.key=s'.key->s=s')(Ab:o.op=.call c){f:Operand}(hc:c.callee=.value f)(hf:vw.ev f=ZA (.one (.fn g))){args:List V}(hl:DM vw.ev c.args.toList=ZA args)(hinA:(Ki vw args).B ρ=ZB)(h:(UM cx vw g args kw k).holds sp G ρ I)(hg:Good sp cx.sm ρ kw):Sound P sp ρ G I base cx vw o k kw:=by
 unfold UM at h;split at h
 .exact h.elim
 .rename_i s e P3;obtain⟨hs,hsf,P2⟩:=qY P3;have ok:=hS s hs;split at h
  .rename_i ks ty CD;split at h
   .rename_i _ id;split at h
    .rename_i r O3;split at h
     .rename_i D9;simp only[ne]at D9;obtain⟨AJ,Bx,Ci⟩:=D9;replace Bx:=bQ Bx;replace Ci:=Ah Ci;obtain⟨CF,DF,h⟩:=h;obtain⟨L',hF,AH,Be⟩:=ok.inpl ks ty CD (r.l.R ρ) CF;have K7:ρ.l kw.vk.length=L':=by
       have:eqs ρ (sp.F s.key [.l (r.l.R ρ)]) kw.vk.length 0 [.sl ks ty]:=DF;rw[hF]at this;exact this.1
      refine⟨_,_,h,⟨hg.pc,?_,hg.log⟩,⟨rfl,by simp⟩,fun j a w hb Ao A9 BS A3 Du K Q hK=> ?_⟩
      .refine⟨fun n k hn=> ?_,fun n k hn=> ?_⟩
       .rcases bn n kw.vk.length with h1|h1
        .rw[AW h1]at hn;exact hg.vk.i n k hn
        .rw[Bc h1]at hn;cases hd:n-kw.vk.length with
         |zero=>rw[hd]at hn;simp at hn
         |succ m=>rw[hd]at hn;simp at hn
       .rcases bn n kw.vk.length with h1|h1
        .rw[AW h1]at hn;exact hg.vk.l n k hn
        .rw[Bc h1]at hn;cases hd:n-kw.vk.length with
         |zero=>rw[hd]at hn;simp only[cH,aU,VK.list.injEq]at hn;obtain rfl:n=kw.vk.length:=Fn;rw[K7,<-hn];exact AH
         |succ m=>rw[hd]at hn;simp at hn
      .obtain⟨EZ,Dq⟩:=Vw.sw_some O3;obtain⟨sv,IF,AG⟩:=A3 id bG r EZ;have LR:SlOk ρ base w sv r:=by
        rcases AG.1.cases with⟨_,h1⟩|⟨h1,_⟩|⟨h1,_⟩
        .exact h1
        .rw[Dq]at h1;cases h1
        .rw[Dq]at h1;cases h1
       have hor:OwnRow w base ty ks sv (r.l.R ρ):=by rw[<-Bx,<-Ci];exact⟨LR.n,LR.own AJ,LR.rows,LR.pos⟩
       obtain⟨JZ,HY⟩:=Be base sv w hor;obtain⟨h1,h2⟩:=iF (j:=j) (a:=a) hl (fun x hx=>Ao x Xn);have h4:=Ao f (by simp[Ab,Op.operands,Call.operands,hc]) _ hf;have h5:a.eval f=.func (.func g) #[] #[]:=(YL h4).symm;have h7:c.args.map a.eval = #[sv.v]:=by
        have e2:c.args.toList.map a.eval=[sv.v]:=by
         match hm:c.args.toList.map a.eval,h2 with
         |[y],_=>have GW:(j.s id).map SV.v=ZA y:=h1 0 _ y rfl (by rw[hm];rfl);rw[IF]at GW;rw[YL GW.symm]
        have e3:c.args.map a.eval=(c.args.toList.map a.eval).toArray:=by rw[<-fR]
        rw[e3,e2]
       have h6:(execOp a.eval o).run P w=(callFunc s.f #[sv.v]).run P w:=by rw[hsf];simp only[execOp,Ab,resolve,hc,h5,h7,Deferred.ofValue,ZH,Sem.run_pure,Result.andThen_ok,invoke,Array.empty_append,Array.append_empty]
       unfold Oper.wp;rw[h6,JZ];show Calls P s.f _ w _;refine HY.mono ?_;rintro e' w' ⟨rfl,ho,hgr⟩;refine hK (.tuple #[]) j w' rfl ⟨rfl,sv,IF,hgr,RowOk.mk_own (r:={r with l:=.g kw.vk.length}) Dq ?_ ?_ ?_ ?_,fun e=>by rw[show r.kd=.sl from Dq]at e;cases e⟩
       .show sv.n=(ρ.l kw.vk.length).length;rw[K7];exact ho.n
       .show RowsIn r.ks (ρ.l kw.vk.length);rw[K7,Bx];exact ho.rows
       .exact LR.pos
       .show w'.ownsRow base r.ty r.ks.length sv.v sv.n (flat r.ks (ρ.l kw.vk.length));rw[K7,Bx,Ci];exact ho.own
     .exact h.elim
    .exact h.elim
   .exact h.elim
  rename_i CD;have Ij:∀v0 Ak,KwGe Ak kw->sp.pre s.key (e.D ρ)->eqs ρ (sp.F s.key (e.D ρ)) v0 0 s.ks->(k {val:=NY s v0 vw.nid,rd:=vB s.args args,rr:=iG vw s.args args,re:=.mk (bE v0 0 s.ks)} Ak).holds sp G ρ I->Good sp cx.sm ρ Ak->Sound P sp ρ G I base cx vw o k kw:=by
   intro v0 Ak GZ CF DF hh CC;refine⟨_,Ak,hh,CC,GZ,fun j a w hb Ao A9 BS A3 Du K Q hK=> ?_⟩;obtain⟨h1,h2⟩:=iF (j:=j) (a:=a) hl (fun x hx=>Ao x Xn);have h3:=aja hg.vk A3 A9 Du P2 hinA _ h1 h2;have h4:=Ao f (by simp[Ab,Op.operands,Call.operands,hc]) _ hf;have h5:a.eval f=.func (.func g) #[] #[]:=(YL h4).symm;have h7:c.args.map a.eval=(c.args.toList.map a.eval).toArray:=by rw[<-fR]
   have h6:(execOp a.eval o).run P w=(callFunc s.f (c.args.toList.map a.eval).toArray).run P w:=by rw[hsf,<-h7];simp only[execOp,Ab,resolve,hc,h5,Deferred.ofValue,ZH,Sem.run_pure,Result.andThen_ok,invoke,Array.empty_append,Array.append_empty]
   have GV:∀v w',RetOk s.res s.tup w w' (sp.F s.key (e.D ρ)) v->K (a.put o.dst v) w':=by
    intro v w' Fk;obtain⟨hx,_,svs,E0,H0,AH,M8,hzz⟩:=Fk;refine hK v ((j.putL vw.nid svs).addzs (svs.flatMap (·.z))) w' (H0 ρ v0 vw.nid _ DF (fun i u hu=> ?_)) ⟨hx,svs,by rw[E0,kT];rfl,fun i u r hu hr=> ?_,M8,hzz,rfl⟩
    .rw[asp];simp[J.putL,hu]
    .exact⟨AH ρ v0 DF i u r hu hr,lA v0 _ _ _ _ hr,fun h=>ak ((nU v0 _ _ _ _ hr).symm.trans h) zS⟩
   rcases ok.calls CD _ _ w h3 CF Du.1 with⟨v,w',hr,Fk⟩|⟨JZ,HY⟩
   .rw[hr]at h6;exact cf h6 (GV v w' Fk)
   .unfold Oper.wp;rw[h6,JZ];show Calls P s.f _ w _;refine HY.mono ?_;rintro e' w' ⟨v,rfl,Fk⟩;exact GV v w' Fk
  split at h
  next v0 hlog=>obtain⟨s',Bi,BZ,CF,DF⟩:=hg.log _ (sX hlog);have:=AO s' Bi s hs BZ;subst this;exact Ij v0 kw (.refl _) CF DF h hg
  .obtain⟨CF,DF,h⟩:=h;refine Ij kw.vk.length {kw with log:=(s.key,e,kw.vk.length)::kw.log,vk:=kw.vk++s.ks.map yg} ⟨rfl,by simp⟩ CF DF h ⟨hg.pc,?_,?_⟩
   .exact au6 hg.vk (ok.rng _ (ajb hg.vk P2) CF ρ _ DF)
   .intro p hp;rcases ZN.1 hp with rfl|hp
    .exact⟨s,hs,rfl,CF,DF⟩
    .exact hg.log p hp
def akP(hS:∀s∈cx.sm,SmOk P sp s)(AO:∀s∈cx.sm,∀s'∈cx.sm,s.key=s'.key->s=s')(Ab:o.op=.call c){f:Operand}(hc:c.callee=.value f)(hf:vw.ev f=ZA (.one (.fn g))){args:List V}(hl:DM vw.ev c.args.toList=ZA args)(h:(Wd cx vw g args kw k).holds sp G ρ I)(hg:Good sp cx.sm ρ kw):Sound P sp ρ G I base cx vw o k kw:=by
 unfold Wd at h;obtain⟨Ak,h1,g1,_,l1⟩:=aC _ _ _ h hg;split at h1
 .rename_i CD;refine Sound.lv ?_ l1;unfold aoe at h1;split at h1
  .exact af3 hS AO Ab hc hf hl CD h1 g1
  .exact h1.elim
 .exact h1.elim
def akK{c:Operand}(Ab:o.op=.pick c x y){u v:V}(hc:vw.ev c=ZA (.one (.bool e)))(hx:vw.ev x=ZA u)(hy:vw.ev y=ZA v)(h:(AB e (fun b kw=>k {val:=if b then u else v} kw) kw).holds sp G ρ I)(hg:Good sp cx.sm ρ kw):Sound P sp ρ G I base cx vw o k kw:=by
 obtain⟨Ak,h1,g1,_,l1⟩:=aC _ _ _ h hg;refine⟨_,Ak,h1,g1,l1,OpOk.pure fun j a w _ Ao _ _ _=>⟨if e.B ρ then a.eval x else a.eval y,?_,?_⟩⟩
 .have h2:=Ao x Or _ hx;have h3:=Ao y Or _ hy;cases e.B ρ
  .exact h3
  .exact h2
 .have h2:=kq (Ao c Or _ hc);simp[execOp,Ab,h2,asBool,ZH]
def qD(hT:∀t i,(t,i)∈cx.ty->TIok P t i):∀(fs:List Field) (l pl:List (Nat×Nat)),fs.map (fun f=>(f.offset,f.type))=l->po cx.ty l=ZA pl->∀w,(fs.mapM (m:=Sem) fun f=>do pure (f.offset,<-sizeOf f.type)).run P w=.ok pl w
 |[],l,pl,hl,h,w=>by subst hl;cases h;simp
 |f::fs,l,pl,hl,h,w=>by
   subst hl;simp only[YR,po]at h;split at h
   next i r hi hr=>cases h;have:=(hT _ _ (af hi)).size;rw[List.mapM_cons];simp only[ZH,this,Result.andThen_ok,Sem.run_pure];rw[qD hT fs _ r rfl hr w];simp
   .exact ST
def af4(hT:∀t i,(t,i)∈cx.ty->TIok P t i)(Ab:o.op=.build t ps)(Gf:JK vw.ev ps.toList=ZA A0){v:V}(hv:UN cx t A0=ZA v)(h:(k {val:=v} kw).holds sp G ρ I)(hg:Good sp cx.sm ρ kw):Sound P sp ρ G I base cx vw o k kw:=by
 refine⟨_,kw,h,hg,.refl _,OpOk.pure fun j a w _ Ao _ _ _=> ?_⟩;obtain⟨h1,h2⟩:=RU (a:=a) (j:=j) Gf (fun x hx=>Ao x (by
  simp only[Ab,Op.operands];simpa using hx))
 have h3:(ps.map fun p=>(p.1,a.eval p.2)).toList=ps.toList.map fun p=>(p.1,a.eval p.2):=Array.toList_map ..;have hx:execOp a.eval o=(do let v <-Instr.build t (ps.map fun p=>(p.1,a.eval p.2));pure (.value v)):=by simp only[execOp,Ab]
 unfold UN at hv;split at hv
 .rename_i i hi;have ht:=hT _ _ (af hi);obtain⟨z,hz,Hp⟩:=ht.zero;split at hv
  .rename_i n et ha;split at hv
   next ie AZ=>rw[Av]at hv;obtain⟨cs,CJ,rfl⟩:=hv;obtain⟨cells,h4,h5⟩:=qZ (j:=j) A0 _ cs _ z.cells CJ (Hp ρ j) h1 h2;refine⟨.agg cells,by simp[V.den,h5],?_⟩;have hs:=(hT _ _ (af AZ)).size;rw[hx];simp[Instr.build,ZH,hz,run_underlying (ht.arr n et ha),hs,h3,h4]
   .cases hv
  .rename_i ha;split at hv
   .rename_i Bh;split at hv
    .rename_i pl Qn;rw[Av]at hv;obtain⟨cs,CJ,rfl⟩:=hv;obtain⟨cells,h4,h5⟩:=qZ (j:=j) A0 _ cs _ z.cells CJ (Hp ρ j) h1 h2;refine⟨.agg cells,by simp[V.den,h5],?_⟩;obtain⟨fs,P4,E6⟩:=ht.str Bh ha;have hm:=qD hT fs.toList i.fields pl E6 Qn w;have Ge:(fs.mapM (m:=Sem) fun f=>do pure (f.offset,<-sizeOf f.type)).run P w=.ok pl.toArray w:=by
      rw[Array.mapM_eq_mapM_toList];rw[show(Functor.map List.toArray (List.mapM (fun f=>(do pure (f.offset,<-sizeOf f.type):Sem (Nat×Nat))) fs.toList):Sem (Array (Nat×Nat)))=(do let l <-List.mapM (fun f=>(do pure (f.offset,<-sizeOf f.type):Sem (Nat×Nat))) fs.toList;pure l.toArray)from rfl];rw[ZH,hm];rfl
     have h6:(fun m:Nat=>pl.toArray[m]?)=fun m:Nat=>pl[m]? :=by funext m;simp
     rw[hx];simp only[Instr.build,ZH,hz,run_underlying P4,Result.andThen_ok,Ge,h3,h6,h4,Sem.run_pure]
    .cases hv
   .cases hv
 .cases hv
def atk(hT:∀t i,(t,i)∈cx.ty->TIok P t i)(hS:∀s∈cx.sm,SmOk P sp s)(AO:∀s∈cx.sm,∀s'∈cx.sm,s.key=s'.key->s=s')(h:(Tw cx vw o.op kw k).holds sp G ρ I)(hg:Good sp cx.sm ρ kw):Sound P sp ρ G I base cx vw o k kw:=by
 cases Ab:o.op<;>rw[Ab]at h<;>simp only[Tw]at h
 case move x=>
  split at h
  next v hv=>exact aa7 (.inl Ab) hv h hg
  .exact h.elim
 case assign x=>
  split at h
  next v hv=>exact aa7 (.inr Ab) hv h hg
  .exact h.elim
 case alloc t=>
  split at h
  next i hi=>exact af5 hT Ab hi h hg
  .exact h.elim
 case box t x=>
  split at h
  .rename_i v hv;split at h
   next hf=>exact ap2 Ab hv hf h hg
   .exact h.elim
  .exact h.elim
 case load t x=>
  split at h
  .rename_i b off i hx hi;split at h
   .rename_i Bh;split at h
    next cs CJ=>exact wg hT Ab hx hi Bh (vw.rowok _ _ _ _ CJ) h hg
    .exact h.elim
   .rename_i Bh;split at h
    next c hc=>exact wh hT Ab hx hi Bh hc h hg
    .exact h.elim
  .rename_i b off i hx hi;split at h
   .rename_i Bh;split at h
    .rename_i cs CJ;rw[cW]at CJ;obtain⟨c0,IZ,CJ⟩:=CJ;split at h
     next El=>exact um hT Ab hx hi Bh (by have:=Uf (ld:=fun b o=>(vw.fb b).bind (·[o]?)) (b:=b) (k:=0) CJ (fun i=>by simp[IZ]);rwa [be]at this) El h hg
     .exact h.elim
    .exact h.elim
   .rename_i Bh;split at h
    .rename_i c hc;split at h
     next El=>exact uo hT Ab hx hi Bh hc El h hg
     .exact h.elim
    .exact h.elim
  .rename_i b o0 n sz e off i hx hi;split at h
   .rename_i cs CJ;split at h
    next hq=>exact afS hT Ab hx hi CJ (Ae hq) h hg
    .exact h.elim
   .exact h.elim
  .rename_i id Bj e off i hx hi;split at h
   .rename_i r hr;split at h
    next hq=>simp only[ne,ax]at hq;exact afT hT Ab hx hi hr (Ah hq.1) hq.2 h hg
    .exact h.elim
   .exact h.elim
  .exact h.elim
 case store t x y=>
  split at h
  .rename_i b off v i hx hy hi;split at h
   next hq=>simp only[ne]at hq;exact afP hT Ab hx hy hi hq.1 hq.2.1 hq.2.2 h hg
   .exact h.elim
  .rename_i b o0 n sz e off v i hx hy hi;split at h
   .rename_i cs CJ;split at h
    next hq=>simp only[ne,ax]at hq;exact ado hT Ab hx hy hi CJ hq.1 (Ah hq.2.1) hq.2.2.1 (Ah hq.2.2.2) h hg
    .exact h.elim
   .exact h.elim
  .rename_i id Bj e off v i hx hy hi;split at h
   .rename_i r hr;split at h
    next hq=>simp only[ne,ax]at hq;exact adp hT Ab hx hy hi hr hq.1 (Ah hq.2.1) hq.2.2.1 (Ah hq.2.2.2.1) hq.2.2.2.2 h hg
    .exact h.elim
   .exact h.elim
  .exact h.elim
 case nilCheck x=>
  split at h
  next b off hx=>exact gM Ab hx (.inl (.inl ⟨b,off,rfl⟩)) h hg
  next b off hx=>exact gM Ab hx (.inl (.inr (.inl ⟨b,off,rfl⟩))) h hg
  next b o0 n sz e off hx=>exact ug Ab hx h hg
  next g hx=>exact gM Ab hx (.inr ⟨g,rfl⟩) h hg
  next id Bj e off hx=>exact gM Ab hx (.inl (.inr (.inr ⟨id,Bj,e,off,rfl⟩))) h hg
  next g fs ps hx=>exact ui Ab hx h hg
  .exact h.elim
  .exact h.elim
 case binOp op xt x y yt=>
  split at h
  next v u hx hy=>exact ap3 hT Ab hx hy h hg
  .exact h.elim
 case unOp op t x=>
  split at h
  next e hx=>exact T3 Ab hx h hg
  next kd e hx=>exact T3 Ab hx h hg
  next kd e hx=>exact T3 Ab hx h hg
  .exact h.elim
 case convert s d x=>
  split at h
  .rename_i k0 e i is hx hi Nd;split at h
   next kd hk=>exact akO hT Ab hx hi Nd hk h hg
   .exact h.elim
  .exact h.elim
 case fieldAddr s x f=>
  split at h
  .rename_i b off i hx hi;split at h
   next fo ft hf=>exact fN hT Ab hx hi hf (fun j v hv=>xA hv) h hg
   .exact h.elim
  .rename_i b off i hx hi;split at h
   next fo ft hf=>exact fN hT Ab hx hi hf (fun j v hv=>ace hv) h hg
   .exact h.elim
  .rename_i b o0 n sz e off i hx hi;split at h
   next fo ft hf=>exact fN hT Ab hx hi hf (fun j v hv=>acd hv) h hg
   .exact h.elim
  .rename_i id Bj e off i hx hi;split at h
   next fo ft hf=>exact fN hT Ab hx hi hf (fun j v hv=>acf hv) h hg
   .exact h.elim
  .exact h.elim
 case field s x f=>
  split at h
  .rename_i cs i hx hi;split at h
   .rename_i fo ft hf;split at h
    next v hv=>exact afW hT Ab hx hi hf hv h hg
    .exact h.elim
   .exact h.elim
  .exact h.elim
 case indexAddr t x y=>
  split at h
  .rename_i b off k0 e i hx hy hi;split at h
   .rename_i n et ha;split at h
    .rename_i ie AZ;split at h
     .exact wj hT Ab hx hy hi ha AZ h hg
     .exact iP hT Ab hx hy hi ha AZ (c':=fun m=>.ptr b (off+m*ie.size)) (fun m j v hv=>xA hv) h hg
    .exact h.elim
   .exact h.elim
  .rename_i id Bj e0 off k0 e i hx hy hi;split at h
   .rename_i n et ha;split at h
    next ie AZ=>exact iP hT Ab hx hy hi ha AZ (c':=fun m=>.ep id Bj e0 (off+m*ie.size)) (fun m j v hv=>acf hv) h hg
    .exact h.elim
   .exact h.elim
  .rename_i id k0 e i hx hy hi;split at h
   .rename_i et ha;split at h
    .rename_i ie r AZ hr;split at h
     next Bx=>exact wl hT Ab hx hy hi ha AZ hr (Ah Bx) h hg
     .exact h.elim
    .exact h.elim
   .exact h.elim
  .exact h.elim
  .exact h.elim
 case index t x y=>
  split at h
  .rename_i cs k0 e i hx hy hi;split at h
   .rename_i n et ha;split at h
    next ie AZ=>exact afV hT Ab hx hy hi ha AZ h hg
    .exact h.elim
   .exact h.elim
  .exact h.elim
 case pick c x y=>
  split at h
  next e u v hc hx hy=>exact akK Ab hc hx hy h hg
  .exact h.elim
 case build t ps=>
  split at h
  .rename_i A0 Gf;split at h
   next v hv=>exact af4 hT Ab Gf hv h hg
   .exact h.elim
  .exact h.elim
 case buildSlice t n ps=>
  split at h
  .rename_i A0 i Gf hi;split at h
   .rename_i et ha;split at h
    .rename_i ie AZ;split at h
     .rename_i ks cs Bx Eg;split at h
      .rename_i l hl;split at h
       next hq=>simp only[ne,ax]at hq;exact rL hT Ab Gf hi ha AZ Eg hl ⟨hq.1,hq.2.1,Ah hq.2.2⟩ h hg
       .exact h.elim
      .exact h.elim
     .exact h.elim
    .exact h.elim
   .exact h.elim
  .exact h.elim
 case makeSlice t x y=>
  split at h
  .rename_i k1 e k2 e' i hx hy hi;split at h
   .rename_i et ha;split at h
    .rename_i ie AZ;split at h
     .rename_i ks Bx;split at h
      .rename_i r hr;split at h
       next hq=>simp only[ne,ax]at hq;exact uk hT Ab hx hy hi ha AZ hr ⟨hq.1,hq.2.1,Ah hq.2.2.1,hq.2.2.2⟩ h hg
       .exact h.elim
      .exact h.elim
     .exact h.elim
    .exact h.elim
   .exact h.elim
  .exact h.elim
 case slice t x lo A6 mx=>
  cases mx with
  |some m=>exact h.elim
  |none=>
    simp only[Tw]at h;split at h
    .rename_i id i hx hi;split at h
     .rename_i et r ha hr;split at h
      .rename_i ie AZ;split at h
       .rename_i hq;simp only[ne]at hq;have Bx:=Ah hq.1;split at h
        .rename_i kd a h1 h2;have e1:A6=ZD:=XC;subst e1;rw[Av]at h2;obtain⟨y,rfl,hy⟩:=h2;obtain⟨Bn,g1,q1,_,l1⟩:=aC _ _ _ h hg;rw[cC]at g1;split at g1
         .exact g1.elim
         rename_i n1;obtain⟨Dd,g2,q2,_,l2⟩:=aC _ _ _ g1 q1;rw[cC,bO]at g2;split at g2
         .exact g2.elim
         rename_i n2;have m1:¬a.I ρ<0:=Af (Bool.eq_false_iff.2 n1);have m2:¬((r.l.R ρ).length:Int)<a.I ρ:=Af (Bool.eq_false_iff.2 n2);exact(ap1 hT Ab hx hi ha AZ hr Bx (L:=(a.I ρ).toNat) (H:=(r.l.R ρ).length) (.inr ⟨y,kd,a,rfl,hy,by omega⟩) (.inl ⟨rfl,rfl⟩) (by simp[E.R]) Fn g2 q2).lv (l2.trans l1)
        .exact h.elim
       .exact h.elim
      .exact h.elim
     .exact h.elim
    .exact h.elim
 case makeMap t rs=>
  cases rs with
  |some _=>exact h.elim
  |none=>
    dsimp only at h;split at h
    .rename_i i hi;split at h
     .rename_i kt et hm;split at h
      .rename_i ki ei IB HD;split at h
       .split at h
        .exact yY hT Ab (ki:=ki) (ei:=ei) hi hm h hg
        .exact h.elim
       .exact h.elim
      .exact h.elim
     .exact h.elim
    .exact h.elim
 case lookup t x y ok=>first|exact h.elim|(cases mx<;>exact h.elim)
 case mapUpdate t x y z=>
  split at h
  .rename_i id kv zv i hx hy hz hi;split at h
   .rename_i kt et r nk ka va hm hr;split at h
    .rename_i ki ei key IB HD Gz;split at h
     .rename_i row AG;split at h
      next hf=>rw[ne]at hf;exact uj hT Ab hx hy hz hi hm hr IB HD Gz AG hf.1 hf.2 h hg
      .exact h.elim
     .exact h.elim
    .exact h.elim
   .exact h.elim
  .exact h.elim
 case range t x=>
  split at h
  .rename_i id i hx hi;split at h
   .rename_i p r nk ka va hm hr;split at h
    .exact h.elim
    next Bg=>exact afQ hT Ab hx hi (kt:=p.1) (et:=p.2) hm hr (Bool.eq_false_iff.2 Bg) h hg
   .exact h.elim
  .exact h.elim
 case entry x=>
  split at h
  .rename_i id mid hx;split at h
   .rename_i q Ik n hq;split at h
    .rename_i J7;have e:=Ah J7;subst e;split at h
     .rename_i sl iv r nk ka va hql hr;split at h
      next hn=>simp only[ne,eu,ax]at hn;exact afZ hT Ab hx hq hql hr hn.1 h hg (fun e=>hn.2.2.1.elim (fun h1=>by rw[e]at h1;cases h1) Ah) (fun e=>hn.2.2.2.elim (fun h1=>by rw[e]at h1;cases h1) Ah) hn.2.1
      .exact h.elim
     .exact h.elim
    .exact h.elim
   .exact h.elim
  .exact h.elim
 case makeFunc fn fs ps=>
  split at h
  next g x y hx hy=>exact we Ab hx hy h hg
  .exact h.elim
 case extract x n=>
  split at h
  .rename_i vs hx;split at h
   next cs hp=>exact pY Ab hx hp (.inl ⟨cs,rfl,rfl⟩) h hg
   next c hp=>exact pY Ab hx hp (.inr ⟨c,rfl,rfl⟩) h hg
   .exact h.elim
  .exact h.elim
 case call c=>
  split at h
  .rename_i f hc;split at h
   next g args hf hl=>exact akP hS AO Ab hc hf hl h hg
   .exact h.elim
  .rename_i hc;split at h
   .rename_i id t hl Ci;split at h
    .rename_i i r hi hr;split at h
     next E0=>exact ap0 hT Ab hc hl Ci hi E0 hr h hg
     .exact h.elim
    .exact h.elim
   .rename_i t hl Ci;split at h
    .rename_i i hi;split at h
     next E0=>exact akM hT Ab hc hl Ci hi E0 h hg
     .exact h.elim
    .exact h.elim
   .exact h.elim
  .rename_i hc;split at h
   .rename_i s id t t' hl Ci;split at h
    .rename_i i r hi hr;split at h
     .rename_i et ha;split at h
      .rename_i ie AZ;split at h
       .rename_i hq;simp only[ne,ax]at hq;have htt:=Ah hq.1;subst htt;have Gg:r.ty=et/\r.ks.length=ie.size/\0<ie.size/\ie.bytes<=65536:=⟨Ah hq.2.1,Ah hq.2.2.1,hq.2.2.2.1,hq.2.2.2.2⟩
        split at h
        .exact zd hT Ab hc hl Ci hi ha AZ hr Gg h hg
        .rename_i old;split at h
         .rename_i q Ke;split at h
          next E8=>simp only[ne]at E8;exact adw hT Ab hc hl Ci hi ha AZ hr Ke Gg ⟨E8.1,Ah E8.2.1,bQ E8.2.2.1⟩ h hg
          .exact h.elim
         .exact h.elim
        .exact h.elim
       .exact h.elim
      .exact h.elim
     .exact h.elim
    .exact h.elim
   .exact h.elim
  .rename_i hc;split at h
   .rename_i k0 e l hl;split at h
    next e' he=>exact amX ZC Ab hc hl he h hg
    .exact h.elim
   .exact h.elim
  .rename_i hc;split at h
   .rename_i k0 e l hl;split at h
    next e' he=>exact amX ZB Ab hc hl he h hg
    .exact h.elim
   .exact h.elim
  .exact h.elim
 all_goals exact h.elim
end
def avk(cx:Cx):Bool:=(aj 999998 cx.hints).isSome
def E2:E->E
 |.lrep (.len x) _=>.len x
 |a=>bY a
def Ui(ρ:Env)(a:E):(E2 a).I ρ=((a.R ρ).length:Int):=by
 unfold E2;split
 .simp[E.R,E.I]
 .exact bO ρ _
def fI(l n:E):E:=match n with
 |.p z=>if fy z 0 then .ln else if n.same (E2 l)then l else .ltake l n
 |n=>if n.same (E2 l)then l else .ltake l n
def gm(l n:E):E:=match n with
 |.p z=>if fy z 0 then l else if n.same (E2 l)then .ln else .ldrop l n
 |n=>if n.same (E2 l)then .ln else .ldrop l n
def ph{n:E}(h:n.same (E2 l)=ZB):(n.I ρ).toNat=(l.R ρ).length:=by rw[E.same_eq h,Ui];rfl
def mJ(ρ:Env)(l n:E):(fI l n).R ρ=(l.R ρ).take (n.I ρ).toNat:=by
 unfold fI;split
 .split
  next z hz=>rw[cF hz];rfl
  .split
   next h=>rw[ph h,List.take_length]
   .rfl
 .split
  next h=>rw[ph h,List.take_length]
  .rfl
def mL(ρ:Env)(l n:E):(gm l n).R ρ=(l.R ρ).drop (n.I ρ).toNat:=by
 unfold gm;split
 .split
  next z hz=>rw[cF hz];rfl
  .split
   next h=>rw[ph h,List.drop_length];rfl
   .rfl
 .split
  next h=>rw[ph h,List.drop_length];rfl
  .rfl
def Ip(l lo hi:E)(mx:Option E):E:=
 ic (eM (A8 lo (.p 0))) (ic (eM (A8 hi lo)) (ic (eM (A8 (bY l) hi)) (match mx with
  |none=>.tt ZB
  |some m=>ic (eM (A8 m hi)) (eM (A8 (bY l) m)))))
def TW(h:(Ip l lo hi mx).B ρ=ZB):0<=lo.I ρ/\lo.I ρ<=hi.I ρ/\hi.I ρ<=((l.R ρ).length:Int)/\∀m,mx=ZA m->hi.I ρ<=m.I ρ/\m.I ρ<=((l.R ρ).length:Int):=by unfold Ip at h;simp only[dQ,db,cC,bO,ne,ZL,mf,E.I]at h;obtain⟨h1,h2,h3,h4⟩:=h;replace h1:¬lo.I ρ<0:=Af h1;refine⟨by omega,by omega,by omega,fun m hm=> ?_⟩;subst hm;simp only[dQ,db,cC,bO,ne,ZL,mf]at h4;omega
def FU(vw:Vw)(o:Option Operand)(d:E):Option E:=match o with
 |none=>ZA d
 |some y=>match vw.ev y with
   |some (.one (.int _ e))=>ZA e
   |_=>ZD
def Li(vw:Vw)(o:Option Operand):Option (Option E):=match o with
 |none=>ZA ZD
 |some y=>match vw.ev y with
   |some (.one (.int _ e))=>ZA (ZA e)
   |_=>ZD
def Hv(vw:Vw)(c:C)(kw:Kw)(k:Nat->RowOb->Kw->Tr):Tr:=match c with
 |.sl id=>match vw.sw id with
   |some r=>k id {r with own:=ZC} kw
   |none=>.stuck 180
 |.wn id sz lo hi mx=>match vw.sw id with
   |some r=>if ZI r.ks.length sz then
    AB (Ip r.l lo hi mx) (fun ok kw=>if ok then k id {r with l:=gm (fI r.l hi) lo,own:=ZC} kw else .stuck 181) kw
     else .stuck 182
   |none=>.stuck 183
 |_=>.stuck 184
def avZ:C->Bool
 |.sl _=>ZB
 |.wn _ _ _ _ _=>ZB
 |_=>ZC
def avY:C->Bool
 |.wn _ _ _ _ _=>ZB
 |_=>ZC
def Jo(a b:E):E:=match a with
 |.p z=>if fy z 0 then b else jU .add .i64 a b
 |a=>jU .add .i64 a b
def RO:C->C->Option Bool
 |.ptr _ _,.np|.fp _ _,.np|.np,.ptr _ _|.np,.fp _ _|.ep _ _ _ _,.np=>ZA ZC
 |.np,.np=>ZA ZB
 |_,_=>ZD
section
variable {P:Program}{sp:Spec}{ρ:Env}{G:Env->E->Prop}{I:Nat->List Dt->Prop}{base:Nat}{cx:Cx}{vw:Vw}{o:Oper}{k:Eff->Kw->Tr}
def rW{l m:Nat}(hm:m<=s.c):∀k,(s.cut Bj l h m).blk ZC=ZA k->s.blk ZC=ZA k:=by
 intro k hk;have hc:m-l≠0:=fun hc=>by unfold SV.blk at hk;simp[SV.cut,hc]at hk
 refine nm Fn ?_;have hk:=ay hk;obtain⟨a,n,c,z⟩:=s;simp only[SV.cut,SV.v]at hk ⊢;rw[aa Fn]at hk;cases a with
 |none=>simp[Value.ownBlock]at hk
 |some a=>simp only[ZK,Value.ownBlock,aU]at hk ⊢;rw[<-hk];unfold Addr.add;split<;>rfl
def aaF{l m:Nat}(Ai:SlOk ρ base w s r)(hq:q.ks=r.ks/\q.own=ZC)(hL:q.l.R ρ=((r.l.R ρ).take h).drop l)(h1:l<=h)(h2:h<=s.n)(h3:h<=m)(h4:m<=s.c):
  SlOk ρ base w (s.cut r.ks.length l h m) q:=by
 obtain⟨r1,r2,r3,r4,r5⟩:=Ai.rd;have hn:=Ai.n;have AE:(q.l.R ρ).length=h-l:=by rw[hL,ZV,YQ];omega
 have AH:∀x∈q.l.R ρ,aq r.ks x=ZB:=fun x hx=>Ai.rows.row x (by rw[hL]at hx;exact List.mem_of_mem_take (List.mem_of_mem_drop hx));refine⟨AE.symm,⟨by rw[hq.1];exact AH,by rw[AE];omega⟩,by rw[hq.1];exact Ai.pos,fun k hk=> ?_,fun ho=>(by rw[hq.2]at ho;cases ho),?_⟩
 .rw[hq.2]at hk;exact Ai.lt k (bI (rW h4 k hk))
 .rw[hq.1];have E6:flat r.ks (q.l.R ρ)=((flat r.ks (r.l.R ρ)).take (h*r.ks.length)).drop (l*r.ks.length):=by
   rw[mW h Ai.rows.row,mY l (fun x hx=>Ai.rows.row x (List.mem_of_mem_take hx)),hL]
  refine⟨by rw[bt AH,AE];rfl,by simp only[SV.cut];omega,by simp only[SV.cut];omega,fun ha=> ?_,fun a ha i u hi=> ?_⟩
  .simp only[SV.cut]at ha ⊢;split at ha
   .have:=r4 ha;omega
   .rw[Option.map_eq_none_iff]at ha;have:=r4 ha;omega
  .simp only[SV.cut]at ha;have Ap:i<(flat r.ks (q.l.R ρ)).length:=(bX.1 hi).1;rw[bt AH,AE]at Ap;split at ha
   next hc=>have:h-l=0:=Fn;rw[this]at Ap;omega
   .rw[Av]at ha;obtain⟨a0,K4,rfl⟩:=ha;rw[bC];refine r5 a0 K4 _ u ?_;rw[E6,List.getElem?_drop,List.getElem?_take]at hi;split at hi
    .exact hi
    .cases hi
def uE(hu:P.underlying t=ZA (.slice et))(hs:(sizeOf et).run P w=.ok Bj w)(s:SV)(l h m:Nat)(low high mx:Option Value)(hl:(low=ZD/\l=0)\/∃kd:IntKind,low=ZA (.int kd (l:Int)))(hh:(high=ZD/\mx=ZD/\h=s.n)\/∃kd:IntKind,high=ZA (.int kd (h:Int)))(hm:(mx=ZD/\m=s.c)\/∃kd:IntKind,mx=ZA (.int kd (m:Int)))(h1:l<=h)(h3:h<=m)(h4:m<=s.c):
  (Instr.sliceAt t s.v low high mx).run P w=.ok (s.cut Bj l h m).v w:=by
 have sb:∀(kd:IntKind) (m y:Nat) code,m<=y->(Instr.sliceBound (.int kd (m:Int)) y code).run P w=.ok m w:=fun kd m y code Qg=>by have h5:(m:Int)<=(y:Int):=Fn;simp[Instr.sliceBound,asIntOf,ZH,Qg]
 have b1:(YX ZB s.n s.c low high mx).run P w=.ok (l,h,m) w:=by
  rcases hm with⟨rfl,rfl⟩|⟨kd2,rfl⟩
  .rcases hl with⟨rfl,rfl⟩|⟨kd,rfl⟩<;>rcases hh with⟨rfl,_,rfl⟩|⟨Hs,rfl⟩
   .exact Ye
   .simp[YX,ZH,sb Hs h s.c _ h3]
   .simp[YX,ZH,sb kd l s.n _ h1]
   .simp[YX,ZH,sb kd l h _ h1,sb Hs h s.c _ h3]
  .rcases hh with⟨_,hx,_⟩|⟨Hs,rfl⟩
   .cases hx
   .rcases hl with⟨rfl,rfl⟩|⟨kd,rfl⟩
    .simp[YX,ZH,sb kd2 m s.c _ h4,sb Hs h m _ h3]
    .simp[YX,ZH,sb kd2 m s.c _ h4,sb kd l h _ h1,sb Hs h m _ h3]
 simp[Instr.sliceAt,Instr.slice,SV.v,SV.cut,run_underlying hu,ZH,b1,hs]
def yU{c:C}{kk:Nat->RowOb->Kw->Tr}(h:(Hv vw c kw kk).holds sp G ρ I)(hg:Good sp cx.sm ρ kw):
  ∃id r Ak,(kk id r Ak).holds sp G ρ I/\Good sp cx.sm ρ Ak/\KwGe Ak kw/\r.kd=.sl/\r.own=ZC/\
   ∀(j:J) (w:World) (rr:List Nat) (v:Value),RrOk ρ base j w vw.rw rr->id∈rr->(V.one c).den ρ j=ZA v->∃s,v=s.v/\SlOk ρ base w s r/\∃s0,j.s id=ZA s0/\∀k,s.blk ZC=ZA k->s0.blk ZC=ZA k:=by
 unfold Hv at h;split at h
 .rename_i id;split at h
  next r hr=>refine⟨id,_,kw,h,hg,.refl _,(Vw.sw_some hr).2,rfl,fun j w rr v A3 E7 hv=> ?_⟩;obtain⟨s,hs,Ai⟩:=A3.sl id E7 r hr;exact⟨s,oS hs hv,Ai.shut,s,hs,fun _ h=>h⟩
  .exact h.elim
 .rename_i id sz lo hi mx;split at h
  .rename_i r hr;split at h
   .rename_i BC;have BC:=Ah BC;obtain⟨Bn,h1,g1,_,l1⟩:=aC _ _ _ h hg;split at h1
    .rename_i Kg;obtain⟨b1,b2,b3,b4⟩:=TW Kg;refine⟨id,_,Bn,h1,g1,l1,(Vw.sw_some hr).2,rfl,fun j w rr v A3 E7 hv=> ?_⟩;obtain⟨s,hs,Ai⟩:=A3.sl id E7 r hr;have CG:ZA (s.cut sz (lo.I ρ).toNat (hi.I ρ).toNat (Ft ρ mx s.c)).v=ZA v:=by
      have:(j.s id).map (fun s=>(s.cut sz (lo.I ρ).toNat (hi.I ρ).toNat (Ft ρ mx s.c)).v)=ZA v:=hv;rwa [hs]at this
     have hn:=Ai.n;have OY:=Ai.rd.2.1;have hm:(hi.I ρ).toNat<=Ft ρ mx s.c/\Ft ρ mx s.c<=s.c:=by
      cases mx with
      |none=>exact⟨by simp only[Ft];omega,YJ _⟩
      |some m=>have:=b4 m rfl;exact⟨by simp only[Ft];omega,by simp only[Ft];omega⟩
     refine⟨_,(YL CG).symm,?_,s,hs,rW hm.2⟩;rw[<-BC];exact aaF Ai ⟨rfl,rfl⟩ (by rw[mL,mJ]) Fn Fn hm.1 hm.2
    .exact h1.elim
   .exact h.elim
  .exact h.elim
 .exact h.elim
def vj{o1:Option Operand}{d:E}(h:FU vw o1 d=ZA e):(o1=ZD/\e=d)\/∃y kd,o1=ZA y/\vw.ev y=ZA (.one (.int kd e)):=by
 unfold FU at h;split at h
 .cases h;exact .inl ⟨rfl,rfl⟩
 .rename_i y;split at h
  next kd e' he=>cases h;exact .inr ⟨y,kd,rfl,he⟩
  .exact ST
def arD{o1:Option Operand}(h:Li vw o1=ZA mx):(o1=ZD/\mx=ZD)\/∃y kd e,o1=ZA y/\mx=ZA e/\vw.ev y=ZA (.one (.int kd e)):=by
 unfold Li at h;split at h
 .cases h;exact .inl ⟨rfl,rfl⟩
 .rename_i y;split at h
  next kd e' he=>cases h;exact .inr ⟨y,kd,_,rfl,rfl,he⟩
  .exact ST
def apY(hT:∀t i,(t,i)∈cx.ty->TIok P t i){lo Jh:Option Operand}(Ab:o.op=.slice t x lo A6 Jh){id:Nat}(hx:vw.ev x=ZA (.one (.sl id)))(hi:aj t cx.ty=ZA i)(ha:i.sle=ZA et)(AZ:aj et cx.ty=ZA ie)(hr:vw.sw id=ZA r)(Bx:r.ks.length=ie.size){a b:E}{m:Option E}(I6:FU vw lo (.p 0)=ZA a)(I4:FU vw A6 (bY r.l)=ZA b)(I8:Li vw Jh=ZA m)(KL:A6=ZD->Jh=ZD)(h:(AB (Ip r.l a b m) (fun ok kw=>if ok then k {val:=.one (.wn id ie.size a b m),rr:=[id]} kw else .panic) kw).holds sp G ρ I)(hg:Good sp cx.sm ρ kw):Sound P sp ρ G I base cx vw o k kw:=by
 obtain⟨Bn,h1,g1,_,l1⟩:=aC _ _ _ h hg;split at h1
 .rename_i Kg;obtain⟨b1,b2,b3,b4⟩:=TW Kg;refine⟨_,Bn,h1,g1,l1,OpOk.pure fun j ac w _ Ao _ A3 _=> ?_⟩;obtain⟨s,hs,Ai⟩:=A3.sl id (by simp) r hr;have hd:=oS hs (Ao x Or _ hx);have hu:=(hT _ _ (af hi)).sle et ha;have BC:=(hT _ _ (af AZ)).size w;have hn:=Ai.n;have OY:=Ai.rd.2.1;refine⟨(s.cut ie.size (a.I ρ).toNat (b.I ρ).toNat (Ft ρ m s.c)).v,by simp[V.den,C.den,hs],?_⟩;have GY:(lo.map ac.eval=ZD/\(a.I ρ).toNat=0)\/∃kd:IntKind,lo.map ac.eval=ZA (.int kd (((a.I ρ).toNat:Nat):Int)):=by
   rcases vj I6 with⟨rfl,rfl⟩|⟨y,kd,rfl,hy⟩
   .exact .inl ⟨rfl,rfl⟩
   .refine .inr ⟨kd,?_⟩;rw[ZK,bS (Ao y Or _ hy),Int.toNat_of_nonneg b1]
  have P5:(A6.map ac.eval=ZD/\Jh.map ac.eval=ZD/\(b.I ρ).toNat=s.n)\/∃kd:IntKind,A6.map ac.eval=ZA (.int kd (((b.I ρ).toNat:Nat):Int)):=by
   rcases vj I4 with⟨rfl,rfl⟩|⟨y,kd,rfl,hy⟩
   .exact .inl ⟨rfl,by rw[KL rfl];rfl,by rw[bO,hn];rfl⟩
   .refine .inr ⟨kd,?_⟩;rw[ZK,bS (Ao y Or _ hy),Int.toNat_of_nonneg Fn]
  have hm1:(Jh.map ac.eval=ZD/\Ft ρ m s.c=s.c)\/∃kd:IntKind,Jh.map ac.eval=ZA (.int kd ((Ft ρ m s.c:Nat):Int)):=by
   rcases arD I8 with⟨rfl,rfl⟩|⟨y,kd,e,rfl,rfl,hy⟩
   .exact .inl ⟨rfl,rfl⟩
   .refine .inr ⟨kd,?_⟩;have:=b4 e rfl;rw[ZK,bS (Ao y Or _ hy)];simp only[Ft];rw[Int.toNat_of_nonneg Fn]
  have hm:(b.I ρ).toNat<=Ft ρ m s.c/\Ft ρ m s.c<=s.c:=by
   cases m with
   |none=>exact⟨by simp only[Ft];omega,YJ _⟩
   |some m=>have:=b4 m rfl;exact⟨by simp only[Ft];omega,by simp only[Ft];omega⟩
  have Be:=uE (P:=P) hu BC s _ _ _ _ _ _ GY P5 hm1 Fn hm.1 hm.2;simp only[execOp,Ab,hd,ZH,Be,Result.andThen_ok,Sem.run_pure]
 .exact h1.elim
def akL(hT:∀t i,(t,i)∈cx.ty->TIok P t i)(Ab:o.op=.call c)(hc:c.callee=.builtin .len)(hl:DM vw.ev c.args.toList=ZA [.one d])(Ci:c.argTypes.toList=[t])(hi:aj t cx.ty=ZA i)(E0:i.sle.isSome=ZB)(h:(Hv vw d kw fun id r kw=>k {val:=.one (.int .i64 (D1 kw.vk r.l)),rr:=[id]} kw).holds sp G ρ I)(hg:Good sp cx.sm ρ kw):Sound P sp ρ G I base cx vw o k kw:=by
 obtain⟨id,r,Bn,h1,g1,l1,_,_,Ho⟩:=yU (base:=base) h hg;refine⟨_,Bn,h1,g1,l1,OpOk.pure fun j a w _ Ao _ A3 _=> ?_⟩;obtain⟨e1,e2⟩:=iF (j:=j) (a:=a) hl (fun x hx=>Ao x Xn);obtain⟨u,Tm⟩:∃u,c.args.toList.map a.eval=[u]:=by
  match hm:c.args.toList.map a.eval,e2 with
  |[u],_=>exact⟨u,rfl⟩
 obtain⟨s,rfl,Ai,_⟩:=Ho j w [id] u A3 (by simp) (by rw[Tm]at e1;exact e1 0 _ u rfl rfl);have h3:c.args.map a.eval = #[s.v]:=by rw[<-Array.toArray_toList (xs:=c.args.map a.eval),Array.toList_map,Tm]
 obtain⟨et,J1⟩:=Option.isSome_iff_exists.1 E0;have hu:=(hT _ _ (af hi)).sle et J1;have CU:c.argTypes = #[t]:=Xs;have GB:(r.l.R ρ).length<=maxLen:=Ai.rows.len;refine⟨.int .i64 (s.n:Int),by rw[Ai.n];simp[V.den,C.den,oc GB],?_⟩;simp[execOp,Ab,resolve,hc,h3,CU,ZH,invoke,builtin,Builtin.len_,run_underlying hu,SV.v,goInt]
def adq(hT:∀t i,(t,i)∈cx.ty->TIok P t i)(Ab:o.op=.indexAddr t x y){id:Nat}(hx:vw.ev x=ZA (.one (.wn id sz lo hi mx)))(hy:vw.ev y=ZA (.one (.int k0 e)))(A6:aj t cx.ty=ZA i)(ha:i.sle=ZA et)(AZ:aj et cx.ty=ZA ie)(hr:vw.sw id=ZA r)(Bx:r.ks.length=ie.size)(BC:sz=ie.size)(h:(AB (Ip r.l lo hi mx) (fun ok kw=>if ok then AB (Fo e (gm (fI r.l hi) lo)) (fun b kw=>if b then k {val:=.one (.ep id ie.size (Jo lo e) 0),rr:=[id]} kw else .panic) kw else .stuck 185) kw).holds sp G ρ I)(hg:Good sp cx.sm ρ kw):Sound P sp ρ G I base cx vw o k kw:=by
 obtain⟨Bn,h1,g1,_,l1⟩:=aC _ _ _ h hg;split at h1
 .rename_i Kg;obtain⟨b1,b2,b3,b4⟩:=TW Kg;obtain⟨Dd,h2,g2,_,l2⟩:=aC _ _ _ h1 g1;rw[rQ]at h2;split at h2
  .rename_i hb;simp only[ne,ax,mL,mJ,ZV,YQ]at hb;refine⟨_,Dd,h2,g2,l2.trans l1,OpOk.pure fun j a w _ Ao _ A3 _=> ?_⟩;obtain⟨s,hs,Ai⟩:=A3.sl id (by simp) r hr;have hd:=Ao x Or _ hx;simp only[V.den,C.den,hs,ZK,aU]at hd;have hq:=bS (Ao y Or _ hy);have hu:=(hT _ _ (af A6)).sle et ha;have hesz:=(hT _ _ (af AZ)).size;have hn:=Ai.n;have A9:=Ai.rd;have AE:=Ai.rows.len;obtain⟨sa,sn,sc,sz⟩:=s;simp only at hn;have hsum:(Jo lo e).I ρ=lo.I ρ+e.I ρ:=by
    have IX:(jU .add .i64 lo e).I ρ=lo.I ρ+e.I ρ:=by rw[uU];show IntKind.i64.wrap _=_;refine pN ?_;rw[bl];simp only[maxLen]at AE;simp only[IntKind.min,IntKind.max,IntKind.signed,IntKind.bits];simp;omega
    unfold Jo;split
    .split
     next z hz=>have:=cF hz;simp only[E.I]at *;omega
     .exact IX
    .exact IX
   cases sa with
   |none=>have:=(A9.2.2.2.1 rfl).1;simp only at this;omega
   |some p=>
     have hm:Ft ρ mx sc≠(lo.I ρ).toNat:=by
      have OY:=A9.2.1;simp only at OY;cases mx with
      |none=>simp only[Ft];omega
      |some m=>have:=b4 m rfl;simp only[Ft];omega
     refine⟨.pointer (ZA (p.add (((Jo lo e).I ρ).toNat*ie.size+0))),by simp[V.den,C.den,hs,SV.elem],?_⟩;have Ap:(0:Int)<=e.I ρ/\e.I ρ<(((hi.I ρ).toNat-(lo.I ρ).toNat:Nat):Int):=Fn;have Xh:(p.add ((lo.I ρ).toNat*ie.size)).add ((e.I ρ).toNat*ie.size)=p.add (((Jo lo e).I ρ).toNat*ie.size+0):=by rw[bC,hsum];congr 1;have e3:(lo.I ρ+e.I ρ).toNat=(lo.I ρ).toNat+(e.I ρ).toNat:=Fn;rw[e3,ZP,Nat.add_mul]
     subst BC;simp[execOp,Ab,<-hd,SV.v,SV.cut,hm,hq,Instr.indexAt,run_underlying hu,asIntOf,Ap,hesz,ZH,Xh]
  .exact h2.elim
 .exact h1.elim
def ahw{c:C}{b:Bool}(h:RO c d=ZA b){x y:Value}(hx:(V.one c).den ρ j=ZA x)(hy:(V.one d).den ρ j=ZA y):∃p q,x=.pointer p/\y=.pointer q/\(p=ZD\/q=ZD)/\b=(p.isNone&&q.isNone):=by
 unfold RO at h;split at h<;>cases h
 .obtain⟨k,_,rfl⟩:=kU hx;cases hy;exact⟨_,_,rfl,rfl,.inr rfl,rfl⟩
 .obtain⟨k,_,rfl⟩:=Pv hx;cases hy;exact⟨_,_,rfl,rfl,.inr rfl,rfl⟩
 .obtain⟨k,_,rfl⟩:=kU hy;cases hx;exact⟨_,_,rfl,rfl,.inl rfl,rfl⟩
 .obtain⟨k,_,rfl⟩:=Pv hy;cases hx;exact⟨_,_,rfl,rfl,.inl rfl,rfl⟩
 .cases hy;obtain⟨p,rfl⟩:=ahv (.inr (.inr ⟨_,_,_,_,rfl⟩)) hx;exact⟨_,_,rfl,rfl,.inr rfl,rfl⟩
 .cases hx;cases hy;exact⟨_,_,rfl,rfl,.inl rfl,rfl⟩
def adC{e:Nat}(hu:P.underlying t=ZA (.pointer e))(p q:Option Addr)(h:p=ZD\/q=ZD)(w:World):(Op.equal t (.pointer p) (.pointer q)).run P w=.ok (p.isNone&&q.isNone) w:=by
 unfold Op.equal;have key:∀d x y,(Op.equalIn (d+1) t x y).run P w=_:=fun d x y=>by rw[Op.equalIn,ZH,run_underlying hu]
 rcases h with rfl|rfl
 .refine(key 9999 _ _).trans ?_;cases q<;>rfl
 .refine(key 9999 _ _).trans ?_;cases p<;>rfl
def afR(hT:∀t i,(t,i)∈cx.ty->TIok P t i){op:BinOp}(Bg:op=.eql\/op=.neq){xt yt:Nat}(Ab:o.op=.binOp op xt x y yt){c:C}(hx:vw.ev x=ZA (.one c))(hy:vw.ev y=ZA (.one d))(hi:aj xt cx.ty=ZA i)(hk:i.kd=1){b:Bool}(hb:RO c d=ZA b)(h:(k {val:=.one (.bool (.tt (if op=.eql then b else !b)))} kw).holds sp G ρ I)(hg:Good sp cx.sm ρ kw):Sound P sp ρ G I base cx vw o k kw:=by
 refine⟨_,kw,h,hg,.refl _,OpOk.pure fun j ac w _ Ao _ _ _=>⟨.bool (if op=.eql then b else !b),by simp[V.den,C.den,E.B],?_⟩⟩;obtain⟨e,hu⟩:=(hT _ _ (af hi)).ptr hk;obtain⟨p,q,h1,h2,h3,rfl⟩:=ahw hb (Ao x Or _ hx) (Ao y Or _ hy);have h4:=adC hu p q h3 w;rcases Bg with rfl|rfl<;>simp[execOp,Ab,h1,h2,eqGuard,binOp,h4,ZH]
def sT:∀(ns:List Int) (s:ByteArray),(ns.foldl (fun r n=>r.push (UInt8.ofNat n.toNat)) s)=⟨(s.data.toList++ns.map fun n=>UInt8.ofNat n.toNat).toArray⟩
 |[],s=>by simp
 |n::ns,s=>by
   rw[YT,sT ns];have:(s.push (UInt8.ofNat n.toNat)).data.toList=s.data.toList++[UInt8.ofNat n.toNat]:=by show(s.data.push _).toList=_;simp
   rw[this];simp
def apZ(hT:∀t i,(t,i)∈cx.ty->TIok P t i){s d:Nat}(Ab:o.op=.convert s d x){c:C}(hx:vw.ev x=ZA (.one c)){is GH:TI}(Nd:aj s cx.ty=ZA is)(hse:is.sle=ZA et)(AZ:aj et cx.ty=ZA ie)(GX:ie.ik=ZA .u8)(E7:aj d cx.ty=ZA GH)(hd:GH.kd=2)(h:(Hv vw c kw fun id r kw=>if bZ r.ks [ZA .u8]then k {val:=.one (.str r.l),rr:=[id]} kw else .stuck 188).holds sp G ρ I)(hg:Good sp cx.sm ρ kw):Sound P sp ρ G I base cx vw o k kw:=by
 obtain⟨id,r,Bn,h1,g1,l1,_,_,Ho⟩:=yU (base:=base) h hg;split at h1
 .rename_i Bx;have Bx:=bQ Bx;refine⟨_,Bn,h1,g1,l1,OpOk.pure fun j a w _ Ao _ A3 _=> ?_⟩;obtain⟨sv,hv,Ai,_⟩:=Ho j w [id] _ A3 (by simp) (Ao x Or _ hx);have hu:=(hT _ _ (af Nd)).sle et hse;have hue:=(hT _ _ (af AZ)).ik _ GX;have hud:=(hT _ _ (af E7)).stg hd;refine⟨.string (lw (r.l.R ρ)),rfl,?_⟩;have AH:=Ai.rows.row;rw[Bx]at AH;have Hh:flat [ZA .u8] (r.l.R ρ)=((r.l.R ρ).map fun q=>q.getD 0 0).map (Value.int .u8):=by
   unfold flat;rw[List.map_map];generalize r.l.R ρ=L at AH ⊢
   induction L with
   |nil=>rfl
   |cons q L ih=>
     have h2:=cn (AH q bG)
     match q,h2 with
     |[z],_=>rw[List.flatMap_cons,ih (fun r hr=>AH r (cm _ hr))];rfl
  have A9:=Ai.rd;rw[Bx]at A9;have hn:=Ai.n;have PZ:(convert s d sv.v).run P w=.ok (.string (lw (r.l.R ρ))) w:=by
   obtain⟨sa,sn,sc,sz⟩:=sv;have e1:=run_convert_bytes_string (P:=P) w s d et sa sn sc hu hue hud;show(convert s d (.slice sa sn sc)).run P w=_;rw[e1];cases sa with
   |none=>have h0:=(A9.2.2.2.1 rfl).1;simp only at h0 hn;have hL:r.l.R ρ=[]:=List.length_eq_zero_iff.1 Fn;rw[hL];rfl
   |some ad=>
     have Fl:(loadCells ad sn).run P w=.ok (((r.l.R ρ).map fun q=>q.getD 0 0).map (Value.int .u8)).toArray w:=by
      have e2:=dS (P:=P) (a:=ad) (w:=w) (flat [ZA .u8] (r.l.R ρ)) 0 #[] (fun m u hm=>by rw[be];exact A9.2.2.2.2 ad rfl m u hm);have e3:(flat [ZA IntKind.u8] (r.l.R ρ)).length=sn:=by rw[A9.1];simp
      rw[e3,Hh]at e2;simpa[loadCells]using e2
     rw[run_bytesToString w ad sn sc _ Fl,sT];simp[lw,Function.comp_def]
  simp[execOp,Ab,hv,ZH,PZ]
 .exact h1.elim
def afB:∀{a b:LL},(∀r∈a,aq [ZA .u8] r=ZB)->(∀r∈b,aq [ZA .u8] r=ZB)->lw a=lw b->a=b:=by
 have key:∀{a b:LL},(∀r∈a,aq [ZA .u8] r=ZB)->(∀r∈b,aq [ZA .u8] r=ZB)->(a.map fun r=>UInt8.ofNat (r.getD 0 0).toNat)=(b.map fun r=>UInt8.ofNat (r.getD 0 0).toNat)->a=b:=by
  intro a
  induction a with
  |nil=>intro b _ _ h;cases b with
    |nil=>rfl
    |cons=>simp at h
  |cons x a ih=>
    intro b ha hb h;cases b with
    |nil=>simp at h
    |cons y b=>
      simp only[YR,AY]at h;have hx:=ha x bG;have hy:=hb y bG;have h1:=cn hx;have h2:=cn hy;have h3:=ih (fun r hr=>ha r (cm _ hr)) (fun r hr=>hb r (cm _ hr)) h.2
      match x,y,h1,h2 with
      |[u],[v],_,_=>
        have hu:Aj .u8 u=ZB:=by simpa[aq,CV]using hx
        have hv:Aj .u8 v=ZB:=by simpa[aq,CV]using hy
        rw[bl]at hu hv;simp only[IntKind.min,IntKind.max,IntKind.signed,IntKind.bits]at hu hv;simp at hu hv;have h4:(UInt8.ofNat u.toNat).toNat=(UInt8.ofNat v.toNat).toNat:=by have:=h.1;simp only[List.getD_cons_zero]at this;rw[this]
        rw[UInt8.toNat_ofNat',UInt8.toNat_ofNat']at h4;have:u=v:=Fn;rw[this,h3]
 intro a b ha hb h;refine key ha hb ?_;have:=congrArg (fun s:ByteArray=>s.data.toList) h;simpa[lw]using this
def wq(hT:∀t i,(t,i)∈cx.ty->TIok P t i){op:BinOp}(Bg:op=.eql\/op=.neq){xt yt:Nat}(Ab:o.op=.binOp op xt x y yt){a b:E}(hx:vw.ev x=ZA (.one (.str a)))(hy:vw.ev y=ZA (.one (.str b)))(hi:aj xt cx.ty=ZA i)(hk:i.kd=2)(hla:a.lok kw.vk [ZA .u8]=ZB)(hlb:b.lok kw.vk [ZA .u8]=ZB)(h:(k {val:=.one (.bool (if op=.eql then .leq a b else eM (.leq a b)))} kw).holds sp G ρ I)(hg:Good sp cx.sm ρ kw):Sound P sp ρ G I base cx vw o k kw:=by
 have hu:=(hT _ _ (af hi)).stg hk;have DF:((lw (a.R ρ)).toList==(lw (b.R ρ)).toList)=(a.R ρ==b.R ρ):=by rw[ar,cb,cb,ByteArray.toList_eq,ByteArray.toList_eq];refine⟨fun h=>afB (E.lok_ok hg.vk a hla) (E.lok_ok hg.vk b hlb) ?_,fun h=>by rw[h]⟩;have h2:(lw (a.R ρ)).data=(lw (b.R ρ)).data:=Array.toList_inj.1 h;cases h3:lw (a.R ρ);cases h4:lw (b.R ρ);rw[h3,h4]at h2;simp only at h2;rw[h2]
 refine⟨_,kw,h,hg,.refl _,OpOk.pure fun j ac w _ Ao _ _ _=>⟨.bool (if op=.eql then(a.R ρ==b.R ρ)else !(a.R ρ==b.R ρ)),?_,?_⟩⟩
 .rcases Bg with rfl|rfl<;>simp[V.den,C.den,db,E.B]
 .have h1:ac.eval x=.string (lw (a.R ρ)):=(YL (Ao x Or _ hx)).symm;have h2:ac.eval y=.string (lw (b.R ρ)):=(YL (Ao y Or _ hy)).symm;rcases Bg with rfl|rfl<;>simp[execOp,Ab,h1,h2,eqGuard,binOp,Op.stringOp,DF,ZH]
end
def ru(d s:E):E:=match gm d (E2 s)with
 |.ln=>fI s (E2 d)
 |r=>.lcat (fI s (E2 d)) r
def ar2(ρ:Env)(d s:E):(ru d s).R ρ=(s.R ρ).take (d.R ρ).length++(d.R ρ).drop (s.R ρ).length:=by
 have h1:(fI s (E2 d)).R ρ=(s.R ρ).take (d.R ρ).length:=by rw[mJ,Ui];rfl
 have h2:(gm d (E2 s)).R ρ=(d.R ρ).drop (s.R ρ).length:=by rw[mL,Ui];rfl
 unfold ru;split
 next h=>rw[h]at h2;rw[h1,<-h2];simp[E.R]
 .rw[<-h1,<-h2];rfl
def mZ(kd:IntKind)(l:E):Nat->Nat->List C
 |_,0=>[]
 |i,n+1=>.int kd (.get l (.p i) 0)::mZ kd l (i+1) n
section
variable {P:Program}{sp:Spec}{ρ:Env}{G:Env->E->Prop}{I:Nat->List Dt->Prop}{base:Nat}{cx:Cx}{vw:Vw}{o:Oper}{k:Eff->Kw->Tr}
def ajg{α:Type}(F D:List α)(n:Nat)(hD:n<=D.length):(F.take n++D.drop (min F.length n)).take n=F.take n++(D.take n).drop F.length:=by
 rcases Nat.le_total F.length n with h|h
 .rw[Nat.min_eq_left h,List.take_of_length_le h,List.take_append,List.take_of_length_le h,List.drop_take]
 .rw[Nat.min_eq_right h,List.drop_eq_nil_of_le (as:=D.take n) XS,YO,List.take_append,List.take_of_length_le XS];have:n-(F.take n).length=0:=XS;rw[this,List.take_zero,YO]
def akN(hT:∀t i,(t,i)∈cx.ty->TIok P t i)(Ab:o.op=.call c)(hc:c.callee=.builtin .copy){JI:Nat}(hl:DM vw.ev c.args.toList=ZA [.one (.sl JI),.one d])(Ci:c.argTypes.toList=[t,t'])(hi:aj t cx.ty=ZA i)(ha:i.sle=ZA et)(AZ:aj et cx.ty=ZA ie)(Jr:ie.size=1)(Ke:vw.sw JI=ZA q)(AJ:q.own=ZB)(Gi:q.ks.length=1)(h:(Hv vw d kw fun id r kw=>if bZ r.ks q.ks then k {val:=.one (.int .i64 (xB (D1 kw.vk r.l) (D1 kw.vk q.l))),rr:=[JI,id],re:=.set JI {q with l:=ru q.l r.l}} kw else .stuck 190).holds sp G ρ I)(hg:Good sp cx.sm ρ kw):Sound P sp ρ G I base cx vw o k kw:=by
 obtain⟨id,r,Bn,h1,g1,l1,_,_,Ho⟩:=yU (base:=base) h hg;split at h1
 .rename_i Bx;have Bx:=bQ Bx;refine⟨_,Bn,h1,g1,l1,fun j a w hb Ao A9 BS A3 Du K Q hK=> ?_⟩;obtain⟨p,hp,H7⟩:=A3.sl JI (by simp) q Ke;obtain⟨u1,u2,BD,HC,E5⟩:=My (j:=j) (a:=a) hl (fun x hx=>Ao x Xn);obtain⟨s,e2,J9,_⟩:=Ho j w [JI,id] u2 A3 (by simp) E5;have e1:=oS hp HC;subst e1 e2;have hu:=(hT _ _ (af hi)).sle et ha;obtain⟨Cv,z,Ct,B5,_,_,_,_⟩:=(hT _ _ (af AZ)).info;have Lc:(P.info? et).map (·.size)=ZA 1:=by rw[Ct,ZK,B5,Jr]
  have CU:c.argTypes = #[t,t']:=Xs;have hpn:=H7.n;have Nr:=J9.n;have Qn:=H7.rows.len;have Qr:=J9.rows.len;have En:∀m:Nat,m=min s.n p.n->(V.one (.int .i64 (xB (D1 Bn.vk r.l) (D1 Bn.vk q.l)))).den ρ j=ZA (goInt m):=fun m hm=>by simp only[V.den,C.den,ahV,oc Qr,oc Qn,goInt];congr 2;omega
  have FR:(ru q.l r.l).R ρ=(r.l.R ρ).take p.n++(q.l.R ρ).drop s.n:=by rw[ar2,<-hpn,<-Nr]
  have IC:((ru q.l r.l).R ρ).length=p.n:=by rw[FR,cQ,YQ,ZV];omega
  have J8:∀x∈(ru q.l r.l).R ρ,aq q.ks x=ZB:=fun x hx=>by
   rw[FR,ZS]at hx;rcases hx with hx|hx
   .have:=J9.rows.row x (List.mem_of_mem_take hx);rwa [Bx]at this
   .exact H7.rows.row x (List.mem_of_mem_drop hx)
  have Kb:=H7.own AJ;have Q3:min s.n p.n=0->(Builtin.copy_ #[t,t'] o.type #[p.v,s.v]).run P w=.ok (goInt 0) w->o.wp P a w K Q:=by
   intro h0 Be;have hR:(ru q.l r.l).R ρ=q.l.R ρ:=by
    rw[FR];rcases Nat.eq_zero_or_pos s.n with h|h
    .have:r.l.R ρ=[]:=List.length_eq_zero_iff.1 Fn;rw[this,h];simp
    .have h2:p.n=0:=by omega
     have:q.l.R ρ=[]:=List.length_eq_zero_iff.1 Fn;rw[this,h2];simp
   refine cf (w':=w) (v:=goInt 0) ?_ (hK _ j w (En 0 h0.symm) ⟨rfl,p,hp,⟨rfl,rfl,rfl,YJ _,fun _ _ _=>rfl⟩,RowOk.mk_own (r:={q with l:=ru q.l r.l}) (Vw.sw_some Ke).2 (by rw[IC]) ⟨J8,by rw[IC];omega⟩ H7.pos (by simp only[hR];exact Kb),fun e=>by rw[show q.kd=.sl from(Vw.sw_some Ke).2]at e;cases e⟩);simp only[execOp,Ab,resolve,hc,BD,CU,ZH,Sem.run_pure,Result.andThen_ok,invoke,builtin,Be]
  by_cases h0:min s.n p.n=0
  .refine Q3 h0 ?_;obtain⟨pa,pn,pc⟩:=p;obtain⟨sa,sn,sc,sz⟩:=s;exact run_copy_none w t t' o.type et pa sa pn pc sn sc hu Lc (by simpa[Nat.min_def]using h0)
  .have Lb:0<s.n:=by omega
   have I9:0<p.n:=Fn;have Np:=J9.rd;rcases Kb.2 with⟨_,hz⟩|⟨g,Fg,cur,hv,hbg,hh,OY,hcm,CJ,LU⟩
   .exact Fn
   .obtain⟨ad,JN⟩:∃ad,s.a=ZA ad:=by
     cases hsa:s.a with
     |some ad=>exact⟨ad,rfl⟩
     |none=>have:=(Np.2.2.2.1 hsa).1;omega
    have Iy:(flat r.ks (r.l.R ρ)).length=s.n:=by rw[Np.1,Bx,Gi,Nat.mul_one]
    have hfq:(flat q.ks (q.l.R ρ)).length=p.n:=by rw[Kb.1,Gi,Nat.mul_one]
    have MZ:cur.size=Fg:=by rw[CJ,Gi,Nat.mul_one]
    have La:((flat r.ks (r.l.R ρ)).take p.n).length=min s.n p.n:=by rw[YQ,Iy,Nat.min_comm]
    have Be:=run_copy_row (P:=P) w t t' o.type et g 0 p.n Fg ad s.n s.c cur q.ty ((flat r.ks (r.l.R ρ)).take p.n) hu Lc hh (by rw[La])
     (fun m u hm=>by
      rw[List.getElem?_take]at hm;split at hm
      .exact Np.2.2.2.2 ad JN m u hm
      .cases hm) (by rw[La,MZ];omega) (fun u Ib=>px u (List.mem_of_mem_take Ib))
    have IF:s.v=.slice (ZA ad) s.n s.c:=by obtain⟨sa,sn,sc,sz⟩:=s;simp only at JN;simp only[SV.v,JN]
    rw[<-hv,<-IF,La]at Be;have JX:cur.toList.take p.n=flat q.ks (q.l.R ρ):=by rw[Gi,Nat.mul_one]at LU;exact LU
    generalize hnew2:(cur.toList.take 0++(flat r.ks (r.l.R ρ)).take p.n++cur.toList.drop (0+min s.n p.n))=FY at Be;have Qk:FY.length=Fg:=by rw[<-hnew2];simp only[List.take_zero,ZM,cQ,ZV,Array.length_toList,La,MZ,be];omega
    have LK:flat q.ks ((ru q.l r.l).R ρ)=FY.take p.n:=by
     have e1:flat q.ks ((r.l.R ρ).take p.n)=(flat r.ks (r.l.R ρ)).take p.n:=by have:=mW (ks:=r.ks) (L:=r.l.R ρ) p.n J9.rows.row;rw[Bx,Gi,Nat.mul_one]at this;rw[Bx,this]
     have e2:flat q.ks ((q.l.R ρ).drop s.n)=(flat q.ks (q.l.R ρ)).drop s.n:=by have:=mY (ks:=q.ks) (L:=q.l.R ρ) s.n H7.rows.row;rw[Gi,Nat.mul_one]at this;rw[this]
     rw[FR,lJ,e1,e2,<-JX,<-hnew2];simp only[List.take_zero,ZM,be];have e3:=ajg (flat r.ks (r.l.R ρ)) cur.toList p.n (by rw[Array.length_toList,MZ];exact OY);rw[Iy]at e3;exact e3.symm
    refine cf (w':=w.setRow g FY.toArray) (v:=goInt ((min s.n p.n:Nat):Int)) ?_ (hK _ j _ (En _ rfl) ⟨rfl,p,hp,⟨rfl,rfl,rfl,by simp,fun m hm Bg=>setRow_other w g m _ (fun e=>Bg (by rw[hv,e];rfl))⟩,RowOk.mk_own (r:={q with l:=ru q.l r.l}) (Vw.sw_some Ke).2 (by rw[IC]) ⟨J8,by rw[IC];omega⟩ H7.pos ⟨?_,.inr ⟨g,Fg,FY.toArray,hv,hbg,setRow_heap w g cur _ q.ty (0,0) hh,OY,hcm,?_,?_⟩⟩,fun e=>by rw[show q.kd=.sl from(Vw.sw_some Ke).2]at e;cases e⟩)
    .simp only[execOp,Ab,resolve,hc,BD,CU,ZH,Sem.run_pure,Result.andThen_ok,invoke,builtin,Be]
    .simp only[Gi,Nat.mul_one];rw[LK,YQ,Qk];omega
    .simp[Gi,Qk]
    .simp only[Gi,Nat.mul_one];rw[LK]
 .exact h1.elim
def Wp:C->Bool
 |.sl _|.wn .. |.aw .. |.nsl=>ZB
 |_=>ZC
def alW{c:C}(h:Wp c=ZB)(hv:(V.one c).den ρ j=ZA v):∃s:SV,v=s.v:=by
 cases c<;>first|cases h|skip
 .simp only[V.den,C.den,Av]at hv;obtain⟨s,_,rfl⟩:=hv;exact⟨s,rfl⟩
 .exact⟨⟨ZD,0,0,[]⟩,xw hv⟩
 .simp only[V.den,C.den,Av]at hv;obtain⟨s,_,rfl⟩:=hv;exact⟨_,rfl⟩
 .simp only[V.den,C.den,Av]at hv;obtain⟨s,_,rfl⟩:=hv;exact⟨_,rfl⟩
def wc(hT:∀t i,(t,i)∈cx.ty->TIok P t i)(Ab:o.op=.slice t x ZD ZD ZD)(hx:vw.ev x=ZA (.one (.ptr b off)))(hi:aj t cx.ty=ZA i)(ha:i.arr=ZA (n,et))(AZ:aj et cx.ty=ZA ie)(h:(k {val:=.one (.aw b off n ie.size (.p 0) (.p n) (.p n))} kw).holds sp G ρ I)(hg:Good sp cx.sm ρ kw):Sound P sp ρ G I base cx vw o k kw:=by
 refine⟨_,kw,h,hg,.refl _,OpOk.pure fun j a w _ Ao _ _ _=> ?_⟩;obtain⟨kk,hk,hv⟩:=kU (Ao x Or _ hx);have hu:=(hT _ _ (af hi)).arr _ _ ha;have BC:=(hT _ _ (af AZ)).size w;refine⟨_,by simp only[V.den,C.den,hk,ZK,E.I];rfl,?_⟩;by_cases hn:n=0<;>simp[execOp,Ab,hv,Instr.sliceAt,run_underlying hu,ZH,YX,BC,SV.cut,SV.v,ZR,asAddr,hn]
def za(hT:∀t i,(t,i)∈cx.ty->TIok P t i)(Ab:o.op=.call c)(hc:c.callee=.builtin .copy)(hd:Wp d=ZB)(hl:DM vw.ev c.args.toList=ZA [.one d,.one .nsl])(Ci:c.argTypes.toList=[t,t'])(hi:aj t cx.ty=ZA i)(ha:i.sle=ZA et)(AZ:aj et cx.ty=ZA ie)(Jr:ie.size=1)(h:(k {val:=.one (.int .i64 (.p 0))} kw).holds sp G ρ I)(hg:Good sp cx.sm ρ kw):Sound P sp ρ G I base cx vw o k kw:=by
 refine⟨_,kw,h,hg,.refl _,OpOk.pure fun j a w _ Ao _ _ _=> ?_⟩;obtain⟨u1,u2,BD,HC,E5⟩:=My (j:=j) (a:=a) hl (fun x hx=>Ao x Xn);obtain⟨s,e1⟩:=alW hd HC;have e2:=xw E5;subst e1 e2;have hu:=(hT _ _ (af hi)).sle et ha;obtain⟨Cv,z,Ct,B5,_,_,_,_⟩:=(hT _ _ (af AZ)).info;have Lc:(P.info? et).map (·.size)=ZA 1:=by rw[Ct,ZK,B5,Jr]
 have CU:c.argTypes = #[t,t']:=Xs;refine⟨goInt 0,rfl,?_⟩;obtain⟨sa,sn,sc,sz⟩:=s;have Be:=run_copy_none (P:=P) w t t' o.type et sa ZD sn sc 0 0 hu Lc (Nat.zero_min _);simp only[execOp,Ab,resolve,hc,BD,CU,ZH,Sem.run_pure,Result.andThen_ok,invoke,builtin,SV.v,Be]
def ads(hT:∀t i,(t,i)∈cx.ty->TIok P t i)(Ab:o.op=.index t x y)(hx:vw.ev x=ZA (.agg cs))(hy:vw.ev y=ZA (.one (.int k0 e)))(hi:aj t cx.ty=ZA i)
   (ha:i.arr=ZA (n,et))  (AZ:aj et cx.ty=ZA ie) (AE:cs.length=n*ie.size) (h:(AB (Jv e n) (fun ok kw=>if ok then(match Mv e n ie.size cs 0 ie.size with
    |some ds=>if ie.agg then k {val:=.agg ds} kw else(match ds with
      |[d]=>k {val:=.one d} kw
      |_=>.stuck 195)
    |none=>.stuck 196)else .panic) kw).holds sp G ρ I) (hg:Good sp cx.sm ρ kw):Sound P sp ρ G I base cx vw o k kw:=by
 obtain⟨Bn,g1,q1,_,l1⟩:=aC _ _ _ h hg;rw[Pt]at g1;split at g1
 .rename_i hr;rw[ne,ax,ax]at hr;have hu:=(hT _ _ (af hi)).arr n et ha;have ht:=hT _ _ (af AZ);split at g1
  .rename_i ds Bw;have key:∀{j:J} {a:Act} (w:World),(∀x∈o.op.operands.toList,∀v,vw.ev x=ZA v->v.den ρ j=ZA (a.eval x))->∃vs:List Value,Ad ρ j ds=ZA ((vs.drop ((e.I ρ).toNat*ie.size+0)).take ie.size)/\ds.length=ie.size/\(execOp a.eval o).run P w=((part et vs.toArray ((e.I ρ).toNat*ie.size)).run P w).andThen fun v w=>.ok (.value v) w:=by
    intro j a w Ao;have hd:=Ao x Or _ hx;simp only[V.den,Av]at hd;obtain⟨vs,EP,hp⟩:=hd;have hq:=bS (Ao y Or _ hy);obtain⟨e1,e2⟩:=vu EP hr.1 hr.2 ie.size 0 ds Bw;refine⟨vs,e2,e1,?_⟩;simp[execOp,Ab,<-hp,hq,Instr.index,run_underlying hu,asIntOf,hr,ht.size,ZH]
   split at g1
   .rename_i Bh;refine⟨_,Bn,g1,q1,l1,OpOk.pure fun j a w _ Ao _ _ _=> ?_⟩;obtain⟨vs,h1,h2,h3⟩:=key (j:=j) (a:=a) w Ao;refine⟨.agg ((vs.drop ((e.I ρ).toNat*ie.size+0)).take ie.size).toArray,by simp only[V.den,h1,ZK],?_⟩;rw[h3];have h4:vs.toArray.extract ((e.I ρ).toNat*ie.size) ((e.I ρ).toNat*ie.size+ie.size)=((vs.drop ((e.I ρ).toNat*ie.size+0)).take ie.size).toArray:=by
     simp[List.extract_eq_take_drop]
    simp only[part,ZH,ht.agg,Bh,Result.andThen_ok,aW,ht.size,h4,Sem.run_pure]
   .rename_i Bh;split at g1
    .rename_i d;refine⟨_,Bn,g1,q1,l1,OpOk.pure fun j a w _ Ao _ _ _=> ?_⟩;obtain⟨vs,h1,h2,h3⟩:=key (j:=j) (a:=a) w Ao;simp only[Ad]at h1;cases hdd:d.den ρ j with
     |none=>rw[hdd]at h1;cases h1
     |some v=>
       rw[hdd,aU]at h1;refine⟨v,hdd,?_⟩;have hz:ie.size=1:=h2.symm;have h4:vs[(e.I ρ).toNat*ie.size]? =ZA v:=by have:=congrArg (fun l=>l[0]?) h1;simp only[cH,List.getElem?_take,hz,List.getElem?_drop,ZP]at this;rw[ae Fn]at this;rw[hz];exact this.symm
       have h5:vs.toArray[(e.I ρ).toNat*ie.size]? =ZA v:=by simpa using h4
       have C0:ie.agg=ZC:=Yl;rw[h3];simp only[part,ZH,ht.agg,C0,Result.andThen_ok,h5];simp
    .exact g1.elim
  .exact g1.elim
 .exact g1.elim
def auo:Option Operand->Bool
 |some (.const _)=>ZB
 |_=>ZC
def opX(cx:Cx)(vw:Vw)(op:Op)(kw:Kw)(k:Eff->Kw->Tr):Option Tr:=match op with
 |.binOp op xt x y _=>match vw.ev x,vw.ev y with
   |some (.one c),ZA (.one d)=>match aj xt cx.ty with
     |some i=>
       if ZI i.kd 1 then(match RO c d,op with
        |some b,.eql=>ZA (k {val:=.one (.bool (.tt b))} kw)
        |some b,.neq=>ZA (k {val:=.one (.bool (.tt (!b)))} kw)
        |_,_=>ZD)
       else if ZI i.kd 2 then(match c,d with
        |.str a,.str b=>if a.lok kw.vk [ZA .u8]&&b.lok kw.vk [ZA .u8]then(match op with
          |.eql=>ZA (k {val:=.one (.bool (.leq a b))} kw)
          |.neq=>ZA (k {val:=.one (.bool (eM (.leq a b)))} kw)
          |_=>ZD)else ZD
        |_,_=>ZD)
       else ZD
     |none=>ZD
   |_,_=>ZD
 |.slice t x lo hi mx=>match vw.ev x,aj t cx.ty with
   |some (.one (.sl id)),ZA i=>if(avk cx||mx.isSome)&&(hi.isSome||mx.isNone)then(match i.sle with
     |some et=>match aj et cx.ty,vw.sw id with
       |some ie,ZA r=>match FU vw lo (.p 0),FU vw hi (bY r.l),Li vw mx with
         |some a,ZA b,ZA m=>if ZI r.ks.length ie.size&&(r.own ||!(auo lo&&(hi.isNone&&mx.isNone)))then ZA (AB (Ip r.l a b m) (fun ok kw=>if ok then k {val:=.one (.wn id ie.size a b m),rr:=[id]} kw else .panic) kw)else ZD
         |_,_,_=>ZD
       |_,_=>ZD
     |none=>ZD)else ZD
   |some (.one (.ptr b off)),ZA i=>match i.arr,lo,hi,mx with
     |some (n,et),ZD,ZD,ZD=>match aj et cx.ty with
       |some ie=>ZA (k {val:=.one (.aw b off n ie.size (.p 0) (.p n) (.p n))} kw)
       |none=>ZD
     |_,_,_,_=>ZD
   |_,_=>ZD
 |.indexAddr t x y=>match vw.ev x,vw.ev y,aj t cx.ty with
   |some (.one (.wn id sz lo hi mx)),ZA (.one (.int _ e)),ZA i=>match i.sle with
     |some et=>match aj et cx.ty,vw.sw id with
       |some ie,ZA r=>if ZI r.ks.length ie.size&&ZI sz ie.size then
        ZA (AB (Ip r.l lo hi mx) (fun ok kw=>if ok then AB (Fo e (gm (fI r.l hi) lo)) (fun b kw=>if b then k {val:=.one (.ep id ie.size (Jo lo e) 0),rr:=[id]} kw else .panic) kw else .stuck 185) kw)
         else ZD
       |_,_=>ZD
     |none=>ZD
   |some (.one (.fp b off)),ZA (.one (.int _ e)),ZA i=>match i.arr with
     |some (n,et)=>match aj et cx.ty with
       |some ie=>ZA (uM e n (fun m kw=>k {val:=.one (.fp b (off+m*ie.size))} kw) n kw)
       |none=>ZD
     |none=>ZD
   |_,_,_=>ZD
 |.index t x y=>match vw.ev x,vw.ev y,aj t cx.ty with
   |some (.agg cs),ZA (.one (.int _ e)),ZA i=>if VH cx &&!e.isLit then(match i.arr with
     |some (n,et)=>match aj et cx.ty with
       |some ie=>if ZI cs.length (n*ie.size)then ZA (AB (Jv e n) (fun ok kw=>if ok then(match Mv e n ie.size cs 0 ie.size with
        |some ds=>if ie.agg then k {val:=.agg ds} kw else(match ds with
          |[d]=>k {val:=.one d} kw
          |_=>.stuck 195)
        |none=>.stuck 196)else .panic) kw)else ZD
       |none=>ZD
     |none=>ZD)else ZD
   |_,_,_=>ZD
 |.convert s d x=>match vw.ev x,aj s cx.ty,aj d cx.ty with
   |some (.one c),ZA is,ZA GH=>if avZ c&&ZI GH.kd 2 then(match is.sle with
     |some et=>match aj et cx.ty with
       |some ie=>(match ie.ik with
         |some .u8=>ZA (Hv vw c kw fun id r kw=>if bZ r.ks [ZA .u8]then k {val:=.one (.str r.l),rr:=[id]} kw else .stuck 188)
         |_=>ZD)
       |none=>ZD
     |none=>ZD)else ZD
   |_,_,_=>ZD
 |.call c=>match c.callee with
   |.builtin .len=>match DM vw.ev c.args.toList,c.argTypes.toList with
     |some [.one d],[t]=>if avY d then(match aj t cx.ty with
       |some i=>if i.sle.isSome then ZA (Hv vw d kw fun id r kw=>k {val:=.one (.int .i64 (D1 kw.vk r.l)),rr:=[id]} kw)else ZD
       |none=>ZD)else ZD
     |_,_=>ZD
   |.builtin .append=>ZD
   |.builtin .copy=>match DM vw.ev c.args.toList,c.argTypes.toList with
     |some [.one q,.one d],[t,_]=>match aj t cx.ty with
       |some i=>match i.sle with
         |some et=>match aj et cx.ty with
           |some ie=>if ZI ie.size 1 then(match d with
             |.nsl=>if Wp q then ZA (k {val:=.one (.int .i64 (.p 0))} kw)else ZD
             |d=>match q with
               |.sl JI=>match vw.sw JI with
                 |some q=>if q.own&&ZI q.ks.length 1 then ZA (Hv vw d kw fun id r kw=>if bZ r.ks q.ks then k {val:=.one (.int .i64 (xB (D1 kw.vk r.l) (D1 kw.vk q.l))),rr:=[JI,id],re:=.set JI {q with l:=ru q.l r.l}} kw else .stuck 190)else ZD
                 |none=>ZD
               |_=>ZD)else ZD
           |none=>ZD
         |none=>ZD
       |none=>ZD
     |_,_=>ZD
   |_=>ZD
 |_=>ZD
def ati(hT:∀t i,(t,i)∈cx.ty->TIok P t i){tr:Tr}(ht:opX cx vw o.op kw k=ZA tr)(h:tr.holds sp G ρ I)(hg:Good sp cx.sm ρ kw):Sound P sp ρ G I base cx vw o k kw:=by
 cases Ab:o.op<;>rw[Ab]at ht<;>simp only[opX]at ht
 case binOp op xt x y yt=>
  split at ht
  .rename_i c d hx hy;split at ht
   .rename_i i hi;split at ht
    .rename_i hk;split at ht
     next b hb=>cases ht;exact afR hT (.inl rfl) Ab hx hy hi (Ah hk) hb h hg
     next b hb=>cases ht;exact afR hT (.inr rfl) Ab hx hy hi (Ah hk) hb h hg
     .exact Xo
    .split at ht
     .rename_i hk;split at ht
      .rename_i a b;split at ht
       .rename_i hl;rw[ne]at hl;split at ht
        .cases ht;exact wq hT (.inl rfl) Ab hx hy hi (Ah hk) hl.1 hl.2 h hg
        .cases ht;exact wq hT (.inr rfl) Ab hx hy hi (Ah hk) hl.1 hl.2 h hg
        .exact Xo
       .exact Xo
      .exact Xo
     .exact Xo
   .exact Xo
  .exact Xo
 case slice t x lo A6 mx=>
  split at ht
  .rename_i id i hx hi;split at ht
   .rename_i hw;rw[ne]at hw;split at ht
    .rename_i et ha;split at ht
     .rename_i ie r AZ hr;split at ht
      .rename_i a b m I6 I4 I8;split at ht
       .rename_i Bx;cases ht;rw[ne]at Bx;refine apY hT Ab hx hi ha AZ hr (Ah Bx.1) I6 I4 I8 (fun e=> ?_) h hg;subst e;cases mx with
        |none=>rfl
        |some m=>have:=hw.2;simp at this
       .exact Xo
      .exact Xo
     .exact Xo
    .exact Xo
   .exact Xo
  .rename_i b off i hx hi;split at ht
   .rename_i n et ha;split at ht
    next ie AZ=>cases ht;exact wc hT Ab hx hi ha AZ h hg
    .exact Xo
   .exact Xo
  .exact Xo
 case indexAddr t x y=>
  split at ht
  .rename_i id sz lo A6 mx k0 e i hx hy hi;split at ht
   .rename_i et ha;split at ht
    .rename_i ie r AZ hr;split at ht
     next Bx=>rw[ne]at Bx;cases ht;exact adq hT Ab hx hy hi ha AZ hr (Ah Bx.1) (Ah Bx.2) h hg
     .exact Xo
    .exact Xo
   .exact Xo
  .rename_i b off k0 e i hx hy hi;split at ht
   .rename_i n et ha;split at ht
    next ie AZ=>cases ht;exact iP hT Ab hx hy hi ha AZ (c':=fun m=>.fp b (off+m*ie.size)) (fun m j v hv=>ace hv) h hg
    .exact Xo
   .exact Xo
  .exact Xo
 case index t x y=>
  split at ht
  .rename_i cs k0 e i hx hy hi;split at ht
   .split at ht
    .rename_i n et ha;split at ht
     .rename_i ie AZ;split at ht
      next hl=>cases ht;exact ads hT Ab hx hy hi ha AZ (Ah hl) h hg
      .exact Xo
     .exact Xo
    .exact Xo
   .exact Xo
  .exact Xo
 case convert s d x=>
  split at ht
  .rename_i c is GH hx Nd E7;split at ht
   .rename_i hc;rw[ne]at hc;split at ht
    .rename_i et hse;split at ht
     .rename_i ie AZ;split at ht
      next GX=>cases ht;exact apZ hT Ab hx Nd hse AZ GX E7 (Ah hc.2) h hg
      .exact Xo
     .exact Xo
    .exact Xo
   .exact Xo
  .exact Xo
 case call c=>
  split at ht
  .rename_i hc;split at ht
   .rename_i d t hl Ci;split at ht
    .split at ht
     .rename_i i hi;split at ht
      next E0=>cases ht;exact akL hT Ab hc hl Ci hi E0 h hg
      .exact Xo
     .exact Xo
    .exact Xo
   .exact Xo
  .exact Xo
  .rename_i hc;split at ht
   .rename_i q d t t' hl Ci;split at ht
    .rename_i i hi;split at ht
     .rename_i et ha;split at ht
      .rename_i ie AZ;split at ht
       .rename_i h1;have h1:=Ah h1;split at ht
        .split at ht
         next hq=>cases ht;exact za hT Ab hc hq hl Ci hi ha AZ h1 h hg
         .exact Xo
        .split at ht
         .rename_i JI;split at ht
          .rename_i q hq;split at ht
           next hk=>rw[ne]at hk;cases ht;exact akN hT Ab hc hl Ci hi ha AZ h1 hq hk.1 (Ah hk.2) h hg
           .exact Xo
          .exact Xo
         .exact Xo
       .exact Xo
      .exact Xo
     .exact Xo
    .exact Xo
   .exact Xo
  .exact Xo
 all_goals cases ht
end
def RdRow.kept(h:RdRow w Bj s xs)(hb:∀k,s.blk ZC=ZA k->w'.heap[k]? =w.heap[k]?):RdRow w' Bj s xs:=by
 obtain⟨h1,h2,h3,h4,h5⟩:=h;refine⟨h1,h2,h3,h4,fun a ha i u hu=> ?_⟩;have hc:s.c≠0:=fun hc=>by have Ap:=(bX.1 hu).1;have:s.n=0:=Fn;rw[h1,this]at Ap;omega
 have:=h5 a ha i u hu;have Db:(a.add i).block=a.block:=Yz;have he:w'.heap[(a.add i).block]? =w.heap[(a.add i).block]? :=by rw[Db];exact hb a.block (nm hc (by simp[SV.v,ha,Value.ownBlock]))
 rw[World.cell?_of_block he];exact this
def sZ:∀{L:LL} {ins:List SV} {i:Nat} {row:List Int} {x:SV},L[i]? =ZA row->ins[i]? =ZA x->∀c,c<3->(fj L ins)[i*3+c]? =(eG row x)[c]?
 |r::L,y::ins,0,row,x,h1,h2,c,hc=>by simp only[cH,aU]at h1 h2;subst h1 h2;simp only[fj,Nat.zero_mul,be];rw[AW (by simpa[eG]using hc)]
 |r::L,y::ins,i+1,row,x,h1,h2,c,hc=>by have:=sZ (L:=L) (ins:=ins) (i:=i) XC XJ c hc;simp only[fj];rw[Bc (by simp only[eG,YM,List.length_nil];omega),<-this];congr 1;simp only[eG,YM,List.length_nil];omega
 |[],_,_,_,_,h,_,_,_=>by simp at h
 |_::_,[],_,_,_,_,h,_,_=>by simp at h
def nc:∀{L:LL} {ins:List SV},ins.length=L.length->∀(L':LL) (Kk:List SV),fj L ins++fj L' Kk=fj (L++L') (ins++Kk)
 |[],[],_,L',Kk=>rfl
 |r::L,x::ins,h,L',Kk=>by simp only[fj,List.cons_append,List.append_assoc,nc (L:=L) (ins:=ins) Xw L' Kk]
 |[],_::_,h,_,_=>by cases h
 |_::_,[],h,_,_=>by cases h
def sY:∀{L:LL} {ins:List SV},∀u∈fj L ins,u.oneCell'=ZB
 |r::L,x::ins,u,hu=>by
   simp only[fj,ZS]at hu;rcases hu with hu|hu
   .simp only[eG,ZN,List.not_mem_nil,or_false]at hu;rcases hu with rfl|rfl|rfl<;>rfl
   .exact sY u hu
 |[],_,u,hu=>by cases hu
 |_::_,[],u,hu=>by cases hu
def aaO:∀{L:LL},(∀r∈L,aq [ZA .u64] r=ZB)->∃xs:List Int,L=xs.map fun x=>[x]
 |[],_=>⟨[],rfl⟩
 |r::L,h=>by
   obtain⟨xs,rfl⟩:=aaO (fun q hq=>h q (cm _ hq));have h1:=h r bG
   match r,h1 with
   |[x],_=>exact⟨x::xs,rfl⟩
   |x::y::l,h1=>simp[aq]at h1
def evA(l:E):E:=.cons (rO l (.p 0) 0) (.cons (rO l (.p 1) 0) (.cons (rO l (.p 2) 0) (.cons (rO l (.p 3) 0) (.cons (rO l (.p 4) 0) .nil))))
def KZ(vk:List VK)(e1 e2 l:E):E:=.cons e1 (.cons e2 (.cons (D1 vk l) (evA l)))
def awz{e1 e2:E}(hl:(l.R ρ).length<=maxLen):(KZ vk e1 e2 l).L ρ=[e1.I ρ,e2.I ρ,((l.R ρ).length:Int),gt (l.R ρ) 0 0,gt (l.R ρ) 1 0,gt (l.R ρ) 2 0,gt (l.R ρ) 3 0,gt (l.R ρ) 4 0]:=by simp only[KZ,evA,E.L,zK,E.I];rw[oc (kw:=⟨[],[],vk,0⟩) hl]
def arT(h:∀r∈L,aq [ZA .u64] r=ZB)(h5:L.length<=5)(a b:Int):td [a,b,(L.length:Int),gt L 0 0,gt L 1 0,gt L 2 0,gt L 3 0,gt L 4 0]=flat [ZA .u64] L/\([a,b,(L.length:Int),gt L 0 0,gt L 1 0,gt L 2 0,gt L 3 0,gt L 4 0].drop 3).drop L.length=YK (5-L.length) 0:=by
 obtain⟨xs,rfl⟩:=aaO h
 match xs,h5 with
 |[],_=>exact⟨rfl,rfl⟩
 |[x],_=>exact⟨rfl,rfl⟩
 |[x,y],_=>exact⟨rfl,rfl⟩
 |[x,y,z],_=>exact⟨rfl,rfl⟩
 |[x,y,z,u],_=>exact⟨rfl,rfl⟩
 |[x,y,z,u,v],_=>exact⟨rfl,rfl⟩
 |_::_::_::_::_::_::_,h=>simp at h
def ot(l e:E):E:=.ltake (.lq (.lq (.lq (.lq (.lq .ln (.cons (.get l e 3) .nil)) (.cons (.get l e 4) .nil)) (.cons (.get l e 5) .nil)) (.cons (.get l e 6) .nil)) (.cons (.get l e 7) .nil)) (.get l e 2)
def auG(h:aq CM row=ZB):∃a b n x0 x1 x2 x3 x4,row=[a,b,n,x0,x1,x2,x3,x4]/\Aj .i64 a=ZB/\Aj .u64 b=ZB/\Aj .i64 n=ZB/\Aj .u64 x0=ZB/\Aj .u64 x1=ZB/\Aj .u64 x2=ZB/\Aj .u64 x3=ZB/\Aj .u64 x4=ZB:=by
 have step:∀{k:IntKind} {ks:List CE} {q:List Int},aq (ZA k::ks) q=ZB->∃x q',q=x::q'/\Aj k x=ZB/\aq ks q'=ZB:=fun {k ks q} h=>by
  cases q with
  |nil=>cases h
  |cons x q=>exact⟨x,q,rfl,by simpa[aq,CV]using h⟩
 obtain⟨a,q,rfl,h0,h⟩:=step h;obtain⟨b,q,rfl,h1,h⟩:=step h;obtain⟨n,q,rfl,h2,h⟩:=step h;obtain⟨x0,q,rfl,h3,h⟩:=step h;obtain⟨x1,q,rfl,h4,h⟩:=step h;obtain⟨x2,q,rfl,h5,h⟩:=step h;obtain⟨x3,q,rfl,h6,h⟩:=step h;obtain⟨x4,q,rfl,h7,h⟩:=step h;cases q with
 |nil=>exact⟨a,b,n,x0,x1,x2,x3,x4,rfl,h0,h1,h2,h3,h4,h5,h6,h7⟩
 |cons x q=>cases h
def asg(h:(l.R ρ)[(e.I ρ).toNat]? =ZA row)(hr:aq CM row=ZB)(hn:(n:Int)=row.getD 2 0)(h5:n<=5):
  ((ot l e).R ρ).length=n/\flat [ZA .u64] ((ot l e).R ρ)=td row/\∀r∈(ot l e).R ρ,aq [ZA .u64] r=ZB:=by
 obtain⟨a,b,m,x0,x1,x2,x3,x4,rfl,_,_,_,g0,g1,g2,g3,g4⟩:=auG hr;have hm:m=(n:Int):=hn.symm;subst hm;have hg:∀c,gt (l.R ρ) (e.I ρ) c=[a,b,(n:Int),x0,x1,x2,x3,x4].getD c 0:=fun c=>by unfold gt;rw[show(l.R ρ).getD (e.I ρ).toNat []=[a,b,(n:Int),x0,x1,x2,x3,x4]from by rw[bh,h];rfl]
 have hR:(ot l e).R ρ=[[x0],[x1],[x2],[x3],[x4]].take n:=by simp only[ot,E.R,E.L,E.I,hg];rfl
 rw[hR];refine⟨by rw[YQ];simp only[YM,List.length_nil];omega,?_,fun r hr=> ?_⟩
 .have e1:td [a,b,(n:Int),x0,x1,x2,x3,x4]=(([x0,x1,x2,x3,x4]:List Int).take n).map fun x=>.int .u64 x:=by simp[td]
  have e2:([[x0],[x1],[x2],[x3],[x4]]:LL)=([x0,x1,x2,x3,x4]:List Int).map fun x=>[x]:=rfl;rw[e1,e2,<-List.map_take];generalize ([x0,x1,x2,x3,x4]:List Int).take n=q
  induction q with
  |nil=>rfl
  |cons y q ih=>simp only[YR,cr,ih];rfl
 .have:=List.mem_of_mem_take hr;simp only[ZN,List.not_mem_nil,or_false]at this;rcases this with rfl|rfl|rfl|rfl|rfl<;>simp[aq,CV, *]
def Vw.evw(vw:Vw)(id:Nat):Option RowOb:=match vw.rw id with
 |some r=>if r.kd.isEv then ZA r else ZD
 |none=>ZD
def Vw.evw_some{vw:Vw}{id:Nat}(h:vw.evw id=ZA r):vw.rw id=ZA r/\r.kd=.ev:=by
 unfold Vw.evw at h;split at h
 .rename_i q hq;split at h
  next hk=>cases h;exact⟨hq,RK.isEv_eq hk⟩
  .exact ST
 .exact ST
def au3(cx:Cx)(t:Nat):Nat:=match aj t cx.ty with
 |some i=>match i.fields[1]? with
   |some (_,st)=>match aj st cx.ty with
     |some i2=>i2.sle.getD 0
     |none=>0
   |none=>0
 |none=>0
section
variable {P:Program}{sp:Spec}{ρ:Env}{G:Env->E->Prop}{I:Nat->List Dt->Prop}{base:Nat}{cx:Cx}{vw:Vw}{o:Oper}{k:Eff->Kw->Tr}
def RrOk.ev{rr:List Nat}(h:RrOk ρ base j w vw.rw rr)(id:Nat)(E7:id∈rr)(r:RowOb)(hr:vw.evw id=ZA r):∃s,j.s id=ZA s/\EvOk ρ base w s r/\Zin j s/\∀p∈s.z,w.heap[p.1]? =ZA p.2:=by obtain⟨h1,h2⟩:=Vw.evw_some hr;obtain⟨s,h3,h4,h5⟩:=h id E7 r h1;exact⟨s,h3,h4.2.2 h2,h5.1,h5.2.1⟩
def wY(hT:∀t i,(t,i)∈cx.ty->TIok P t i)(Ab:o.op=.buildSlice t n ps)(Gf:JK vw.ev ps.toList=ZA A0)(hi:aj t cx.ty=ZA i)(ha:i.sle=ZA et)(AZ:aj et cx.ty=ZA ie)
   (Eg:rS (fun m=>ZA (m*ie.size,ie.size)) ((YK n ie.zero).flatten) A0=ZA cs) (DP:n*ie.size<=16777216) (Ej:0<n*ie.size)    (Ao:∀x∈o.op.operands.toList,∀v,vw.ev x=ZA v->v.den ρ j=ZA (a.eval x)):
  ∃cells:Array Value,Ad ρ j cs=ZA cells.toList/\(execOp a.eval o).run P w=.ok (.value (.slice (ZA ⟨w.heap.size,0,ZD⟩) n n)) (w.alloc (.cells cells et)):=by
 obtain⟨h1,h2⟩:=RU (a:=a) (j:=j) Gf (fun x hx=>Ao x (by
  simp only[Ab,Op.operands];simpa using hx))
 have h3:(ps.map fun p=>(p.1,a.eval p.2)).toList=ps.toList.map fun p=>(p.1,a.eval p.2):=Array.toList_map ..;have hx:execOp a.eval o=(do let v <-Instr.buildSlice t n (ps.map fun p=>(p.1,a.eval p.2));pure (.value v)):=by simp only[execOp,Ab]
 have hu:=(hT _ _ (af hi)).sle et ha;have Nt:=hT _ _ (af AZ);have BC:=Nt.size;obtain⟨Cv,z,Ct,B5,_,hz,HI,Hp⟩:=Nt.info;have IG:z.cells.size=ie.size:=by simpa using HI
 have zer:Ad ρ j ((YK n ie.zero).flatten)=ZA (madeCells z.cells (n*ie.size)).toList:=by
  rw[<-IG,pp];have:∀n,Ad ρ j ((YK n ie.zero).flatten)=ZA ((YK n z.cells.toList).flatten):=by
   intro n
   induction n with
   |zero=>rfl
   |succ n ih=>simp only[List.replicate_succ,List.flatten_cons];exact eU (Hp ρ j) ih
  exact this n
 obtain⟨cells,h4,h5⟩:=qZ (j:=j) A0 _ cs _ (madeCells z.cells (n*ie.size)) Eg zer h1 h2;refine⟨cells,h5,?_⟩;rw[hx];have JS:¬(16777216<n*ie.size):=Fn;have OX:¬n*ie.size=0:=Fn;simp only[madeCells]at h4;simp[Instr.buildSlice,ZH,run_underlying hu,BC,h3,JS,OX,zeroValue,typeInfo,Ct,hz,h4,newRow]
def afX(hT:∀t i,(t,i)∈cx.ty->TIok P t i)(Ab:o.op=.buildSlice t 1 ps)(Gf:JK vw.ev ps.toList=ZA A0)(hi:aj t cx.ty=ZA i)(ha:i.sle=ZA et)(AZ:aj et cx.ty=ZA ie){e1 e2:E}{id:Nat}(Eg:rS (fun m=>ZA (m*ie.size,ie.size)) ((YK 1 ie.zero).flatten) A0=ZA [.int .i64 e1,.sl id,.int .u64 e2])(h3:ie.size=3)(hr:vw.sw id=ZA r)(AJ:r.own=ZB)(Bx:r.ks=[ZA .u64])(hrok:(KZ kw.vk e1 e2 r.l).rok kw.vk CM=ZB)(h:(AB (A8 (.p 5) (bY r.l)) (fun b Ak=>if b then .stuck 220 else k {val:=.one (.sl vw.nid),rr:=[id],re:=.frz id {r with own:=ZC} ⟨CM,et,.lq .ln (KZ kw.vk e1 e2 r.l),ZB,.ev⟩} Ak) kw).holds sp G ρ I)(hg:Good sp cx.sm ρ kw):Sound P sp ρ G I base cx vw o k kw:=by
 obtain⟨Bn,h1,g1,_,l1⟩:=aC _ _ _ h hg;rw[cC,bO]at h1;split at h1
 .exact h1.elim
 rename_i h5;have h5:(r.l.R ρ).length<=5:=by have:¬(5:Int)<((r.l.R ρ).length:Int):=Af (Bool.eq_false_iff.2 h5);omega
 refine⟨_,Bn,h1,g1,l1,fun j a w hb Ao A9 BS A3 Du K Q hK=> ?_⟩;obtain⟨cells,hd,Be⟩:=wY (ρ:=ρ) (w:=w) hT Ab Gf hi ha AZ Eg Fn Fn Ao;obtain⟨s,hs,Ai⟩:=A3.sl id (by simp) r hr;have AH:∀q∈r.l.R ρ,aq [ZA .u64] q=ZB:=by have:=Ai.rows.row;rw[Bx]at this;exact this
 have hL:=awz (ρ:=ρ) (vk:=kw.vk) (e1:=e1) (e2:=e2) (l:=r.l) Ai.rows.len;obtain⟨f1,f2⟩:=arT AH h5 (e1.I ρ) (e2.I ρ);have AG:aq CM ((KZ kw.vk e1 e2 r.l).L ρ)=ZB:=E.rok_ok hg.vk hrok;have hc:cells.toList=fj [(KZ kw.vk e1 e2 r.l).L ρ] [s]:=by simp only[Ad,C.den,hs,ZK,aU]at hd;rw[<-hd,hL];rfl
 have Ka:=Ai.own AJ;obtain⟨z,ES,LX,hz3⟩:∃z:List (Nat×Obj),z.length<=1/\(∀p∈z,w.heap[p.1]? =ZA p.2/\B6 p.2=ZB/\s.v.ownBlock=ZA p.1)/\∀k,s.v.ownBlock=ZA k->∃o,(k,o)∈z:=by
  rcases Ka.2 with⟨hv,_⟩|⟨g,Fg,cur,hv,hbg,hh,_⟩
  .exact⟨[],by simp,fun p hp=>Yi,fun k hk=>by rw[hv]at hk;cases hk⟩
  .refine⟨[(g,.cells cur r.ty (0,0))],by simp,fun p hp=> ?_,fun k hk=> ?_⟩
   .rw[cV.1 hp];exact⟨hh,rfl,by rw[hv];rfl⟩
   .rw[hv]at hk;cases hk;exact⟨_,cV.2 rfl⟩
 have HD:EiOk z ((KZ kw.vk e1 e2 r.l).L ρ) s:=by rw[hL];refine⟨by rw[Ai.n];rfl,by rw[Ai.n];exact h5,by rw[Ai.n];exact f2,fun w' hw=> ?_,fun k hk=>hz3 k (ay hk)⟩;have A9:=Ai.rd;rw[Bx]at A9;rw[f1];refine RdRow.kept A9 (fun k hk=> ?_);obtain⟨o,ho⟩:=hz3 k (ay hk);rw[hw _ ho,(LX _ ho).1]
 have hx:Ext w (w.alloc (.cells cells et)):=Ext.of_grown (World.grownBy_alloc w _ ZD);have own:=World.ownsRow_lit (base:=w.heap.size) (e:=et) (size:=3) w cells 1 (YJ _) (by simp[maxLen]) (by rw[<-Array.length_toList,hc];rfl);refine cf (w':=w.alloc (.cells cells et)) (v:=(⟨ZA ⟨w.heap.size,0,ZD⟩,1,1,z⟩:SV).v) Be (hK _ _ _ ?_ ⟨hx,s,⟨ZA ⟨w.heap.size,0,ZD⟩,1,1,z⟩,hs,SlOk.row ⟨Ai.n,Ai.rows,Ai.pos,fun k hk=>Ai.lt k (by rw[AJ];exact bI hk),fun ho=>(by cases ho),Ai.rd⟩ (Vw.sw_some hr).2,?_,fun k hk=>(by cases hk;exact YJ _),ES,LX,rfl,(fun e=>by rw[show r.kd=.sl from(Vw.sw_some hr).2]at e;cases e),(fun e=>by cases e)⟩)
 .have e1:((j.putS vw.nid ⟨ZA ⟨w.heap.size,0,ZD⟩,1,1,z⟩).addz z).s=(j.putS vw.nid ⟨ZA ⟨w.heap.size,0,ZD⟩,1,1,z⟩).s:=by cases z<;>rfl
  simp only[V.den,C.den];rw[e1];simp[J.putS]
 .rw[hc]at own;refine EvOk.row ⟨rfl,?_,⟨fun q hq=> ?_,by simp[E.R,maxLen]⟩,fun k hk=> ?_,fun _ p hp=> ?_,[s],?_,fun _=> ?_,?_,fun i row x A6 ER=> ?_⟩ rfl
  .simp[E.R]
  .simp only[E.R,ZM,cV]at hq;rw[hq];exact AG
  .have:=(sE (s:=⟨ZA ⟨w.heap.size,0,ZD⟩,1,1,z⟩) own k (ay hk)).1;exact this
  .exact(sE Ka _ (LX p hp).2.2).2
  .simp[E.R]
  .simp only[E.R,ZM];exact own.mono hb
  .simp only[E.R,ZM];exact qy (s:=⟨ZA ⟨w.heap.size,0,ZD⟩,1,1,z⟩) own
  .cases i with
   |zero=>simp only[E.R,ZM,cH,aU]at A6 ER;rw[<-A6,<-ER];exact HD
   |succ i=>simp at ER
def yZ(hT:∀t i,(t,i)∈cx.ty->TIok P t i)(Ab:o.op=.indexAddr t x y){id:Nat}(hx:vw.ev x=ZA (.one (.sl id)))(hy:vw.ev y=ZA (.one (.int k0 e)))(hi:aj t cx.ty=ZA i)(ha:i.sle=ZA et)(AZ:aj et cx.ty=ZA ie)(hr:vw.evw id=ZA r)(h3:ie.size=3)(h:(AB (Fo e r.l) (fun b kw=>if b then k {val:=.one (.ep id 3 e 0),rr:=[id]} kw else .panic) kw).holds sp G ρ I)(hg:Good sp cx.sm ρ kw):Sound P sp ρ G I base cx vw o k kw:=by
 obtain⟨Ak,h1,g1,_,l1⟩:=aC _ _ _ h hg;rw[rQ]at h1;split at h1
 .rename_i hb;simp only[ne,ax]at hb;refine⟨_,Ak,h1,g1,l1,OpOk.pure fun j a w _ Ao _ A3 _=> ?_⟩;obtain⟨s,hs,Ai,_⟩:=A3.ev id (by simp) r hr;have hd:=Ao x Or _ hx;simp only[V.den,C.den,hs,ZK,aU]at hd;have hq:=bS (Ao y Or _ hy);have hu:=(hT _ _ (af hi)).sle et ha;have BC:=(hT _ _ (af AZ)).size;obtain⟨sa,sn,sc,sz⟩:=s;have hn:=Ai.n;simp only at hn;obtain⟨ins,_,_,A9,_⟩:=Ai.at';cases sa with
  |none=>have:=(A9.2.2.2.1 rfl).1;simp only at this;omega
  |some p=>refine⟨.pointer (ZA (p.add ((e.I ρ).toNat*3+0))),by simp[V.den,C.den,hs,SV.elem],?_⟩;have Ap:(0:Int)<=e.I ρ/\e.I ρ<(sn:Int):=Fn;simp[execOp,Ab,<-hd,SV.v,hq,Instr.indexAt,run_underlying hu,asIntOf,Ap,BC,h3,ZH]
 .exact h1.elim
def afY(hT:∀t i,(t,i)∈cx.ty->TIok P t i)(Ab:o.op=.call c)(hc:c.callee=.builtin .len){id:Nat}(hl:DM vw.ev c.args.toList=ZA [.one (.sl id)])(Ci:c.argTypes.toList=[t])(hi:aj t cx.ty=ZA i)(E0:i.sle.isSome=ZB)(hr:vw.evw id=ZA r)(h:(k {val:=.one (.int .i64 (D1 kw.vk r.l)),rr:=[id]} kw).holds sp G ρ I)(hg:Good sp cx.sm ρ kw):Sound P sp ρ G I base cx vw o k kw:=by
 refine⟨_,kw,h,hg,.refl _,OpOk.pure fun j a w _ Ao _ A3 _=> ?_⟩;obtain⟨s,hs,Ai,_⟩:=A3.ev id (by simp) r hr;obtain⟨h1,h2⟩:=iF (j:=j) (a:=a) hl (fun x hx=>Ao x Xn);have h3:c.args.map a.eval = #[s.v]:=by
  have:c.args.toList.map a.eval=[s.v]:=by
   match hm:c.args.toList.map a.eval,h2 with
   |[u],_=>rw[hm]at h1;rw[oS hs (h1 0 _ u rfl rfl)]
  rw[<-Array.toArray_toList (xs:=c.args.map a.eval),Array.toList_map,this]
 obtain⟨et,J1⟩:=Option.isSome_iff_exists.1 E0;have hu:=(hT _ _ (af hi)).sle et J1;have CU:c.argTypes = #[t]:=Xs;have GB:(r.l.R ρ).length<=maxLen:=Ai.rows.len;refine⟨.int .i64 (s.n:Int),by rw[Ai.n];simp[V.den,C.den,oc GB],?_⟩;simp[execOp,Ab,resolve,hc,h3,CU,ZH,invoke,builtin,Builtin.len_,run_underlying hu,SV.v,goInt]
def an8{α:Type}:Nat->α->α->α->α->α
 |0,a,_,_,_=>a
 |1,_,b,_,_=>b
 |2,_,_,c,_=>c
 |_,_,_,_,d=>d
def vm{j:J}(Ai:EvOk ρ base w s r)(hb:0<=e.I ρ/\e.I ρ<((r.l.R ρ).length:Int)){p:Addr}(hp:s.a=ZA p):∃row x,(r.l.R ρ)[(e.I ρ).toNat]? =ZA row/\aq CM row=ZB/\EiOk s.z row x/\gt (r.l.R ρ) (e.I ρ) 0=row.getD 0 0/\gt (r.l.R ρ) (e.I ρ) 1=row.getD 1 0/\∀c u,(eG row x)[c]? =ZA u->w.cell? (p.add ((e.I ρ).toNat*3+c))=ZA u:=by
 obtain⟨ins,hl,_,A9,HD⟩:=Ai.at';have Ap:(e.I ρ).toNat<(r.l.R ρ).length:=Fn;have hr:=Az Ap;have hx:=Az (show(e.I ρ).toNat<ins.length by omega);have hg:∀c,gt (r.l.R ρ) (e.I ρ) c=((r.l.R ρ)[(e.I ρ).toNat]).getD c 0:=fun c=>by unfold gt;rw[show(r.l.R ρ).getD (e.I ρ).toNat []=(r.l.R ρ)[(e.I ρ).toNat]from by rw[bh,hr];rfl]
 refine⟨_,_,hr,?_,HD _ _ _ hr hx,hg 0,hg 1,fun c u hu=> ?_⟩
 .have:=Ai.rows.row _ (List.getElem_mem Ap);rw[Ai.ks]at this;exact this
 .have hc:c<3:=by
   have:=(bX.1 hu).1;simpa[eG]using this
  have:=sZ hr hx c hc;exact A9.2.2.2.2 p hp _ _ (this.trans hu)
def ahA{x:SV}(hr:(l.R ρ)[(e.I ρ).toNat]? =ZA row)(CD:aq CM row=ZB)(HD:EiOk s.z row x)(hz:Zin j s/\∀p∈s.z,w.heap[p.1]? =ZA p.2)(ty:Nat):
  RowOk ρ base w {x with z:=[]} ⟨[ZA .u64],ty,ot l e,ZC,.sl⟩/\∀k,({x with z:=[]}:SV).blk ZC=ZA k->∃o,j.g.z k=ZA o/\B6 o=ZB:=by
 obtain⟨h1,h2,h3⟩:=asg hr CD HD.n HD.most;have Db:∀k,({x with z:=[]}:SV).blk ZC=ZA k->∃o,(k,o)∈s.z:=fun k hk=>HD.blk k hk;refine⟨SlOk.row ⟨h1.symm,⟨h3,?_⟩,by simp,fun k hk=> ?_,fun ho=>(by cases ho),?_⟩ rfl,fun k hk=> ?_⟩
 .have:=HD.most;have Gq:((ot l e).R ρ).length=x.n:=h1;show((ot l e).R ρ).length<=maxLen;simp only[maxLen];omega
 .obtain⟨o,ho⟩:=Db k hk;exact(fL.1 (hz.2 _ ho)).1
 .have:=HD.rd w hz.2;show RdRow w 1 _ (flat [ZA .u64] ((ot l e).R ρ));rw[h2];exact this
 .obtain⟨o,ho⟩:=Db k hk;exact⟨o,hz.1 _ ho⟩
def adt(hT:∀t i,(t,i)∈cx.ty->TIok P t i)(Ab:o.op=.load t x){id ty:Nat}(hx:vw.ev x=ZA (.one (.ep id 3 e off)))(hi:aj t cx.ty=ZA i)(hr:vw.evw id=ZA r)
  (h:(AB (Fo e r.l) (fun b kw=>if b then
      (if i.agg then(if ZI i.size 3&&ZI off 0 then k {val:=.agg [.int .i64 (.get r.l e 0),.sl vw.nid,.int .u64 (.get r.l e 1)],rr:=[id],re:=.peek ⟨[ZA .u64],ty,ot r.l e,ZC,.sl⟩} kw else .stuck 221)
      else an8 off (k {val:=.one (.int .i64 (.get r.l e 0)),rr:=[id]} kw) (k {val:=.one (.sl vw.nid),rr:=[id],re:=.peek ⟨[ZA .u64],ty,ot r.l e,ZC,.sl⟩} kw) (k {val:=.one (.int .u64 (.get r.l e 1)),rr:=[id]} kw) (.stuck 222))
      else .stuck 223) kw).holds sp G ρ I) (hg:Good sp cx.sm ρ kw):Sound P sp ρ G I base cx vw o k kw:=by
 obtain⟨Ak,h1,g1,_,l1⟩:=aC _ _ _ h hg;rw[rQ]at h1;have ht:=hT _ _ (af hi);split at h1
 .rename_i hb;simp only[ne,ax]at hb;split at h1
  .rename_i Bh;split at h1
   .rename_i hq;rw[ne]at hq;have Kc:=Ah hq.1;have E8:=Ah hq.2;subst E8;refine⟨_,Ak,h1,g1,l1,fun j a w PV Ao A9 BS A3 Du K Q hK=> ?_⟩;obtain⟨s,hs,Ai,hz⟩:=A3.ev id (by simp) r hr;obtain⟨p,hp,he⟩:=oV hs (Ao x Or _ hx);obtain⟨row,y,q1,q2,q3,q4,q5,q6⟩:=vm (j:=j) Ai hb hp;obtain⟨p1,p2⟩:=ahA (base:=base) q1 q2 q3 hz ty;refine cf (w':=w) (v:=.agg (eG row y).toArray) ?_ (hK _ (j.putS vw.nid {y with z:=[]}) w ?_ ⟨rfl,_,p1,p2,rfl,rfl,fun e=>by cases e⟩)
    .have h4:=dS (P:=P) (a:=p.add ((e.I ρ).toNat*3+0)) (w:=w) (eG row y) 0 #[] (fun m u hu=>by
      rw[be,bC,ZU,be];exact q6 m u hu)
     have h5:(eG row y).length=3:=rfl;rw[h5]at h4;simp only[ZP]at he h4;simp[execOp,Ab,he,Instr.loadAt,ZR,ZH,loadVar,ht.agg,Bh,ht.size,Kc,loadCells,h4]
    .simp only[V.den,Ad,C.den,J.putS,aW,ZK,E.I,q4,q5,eG];rfl
   .exact h1.elim
  .rename_i Bh;have C0:i.agg=ZC:=Yl;have one:∀{j:J} {a:Act} {w:World} {s:SV} {p:Addr} {row:List Int} {y:SV} (c:Nat) (u:Value),a.eval x=.pointer (ZA (p.add ((e.I ρ).toNat*3+c)))->(∀c u,(eG row y)[c]? =ZA u->w.cell? (p.add ((e.I ρ).toNat*3+c))=ZA u)->(eG row y)[c]? =ZA u->(execOp a.eval o).run P w=.ok (.value u) w:=by
    intro j a w s p row y c u he q6 hu;have h4:=q6 c u hu;simp[execOp,Ab,he,Instr.loadAt,ZR,ZH,loadVar,ht.agg,C0,load,Sem.run,h4]
   match off,h1,hx with
   |0,h1,hx=>refine⟨_,Ak,h1,g1,l1,OpOk.pure fun j a w _ Ao _ A3 _=> ?_⟩;obtain⟨s,hs,Ai,hz⟩:=A3.ev id (by simp) r hr;obtain⟨p,hp,he⟩:=oV hs (Ao x Or _ hx);obtain⟨row,y,q1,q2,q3,q4,q5,q6⟩:=vm (j:=j) Ai hb hp;exact⟨.int .i64 (row.getD 0 0),by simp only[V.den,C.den,E.I,q4],one (j:=j) (s:=s) 0 _ he q6 rfl⟩
   |1,h1,hx=>refine⟨_,Ak,h1,g1,l1,fun j a w PV Ao A9 BS A3 Du K Q hK=> ?_⟩;obtain⟨s,hs,Ai,hz⟩:=A3.ev id (by simp) r hr;obtain⟨p,hp,he⟩:=oV hs (Ao x Or _ hx);obtain⟨row,y,q1,q2,q3,q4,q5,q6⟩:=vm (j:=j) Ai hb hp;obtain⟨p1,p2⟩:=ahA (base:=base) q1 q2 q3 hz ty;refine cf (w':=w) (v:=y.v) (one (j:=j) (s:=s) 1 _ he q6 rfl) (hK _ (j.putS vw.nid {y with z:=[]}) w ?_ ⟨rfl,_,p1,p2,rfl,rfl,fun e=>by cases e⟩);simp only[V.den,C.den,J.putS,aW,ZK];rfl
   |2,h1,hx=>refine⟨_,Ak,h1,g1,l1,OpOk.pure fun j a w _ Ao _ A3 _=> ?_⟩;obtain⟨s,hs,Ai,hz⟩:=A3.ev id (by simp) r hr;obtain⟨p,hp,he⟩:=oV hs (Ao x Or _ hx);obtain⟨row,y,q1,q2,q3,q4,q5,q6⟩:=vm (j:=j) Ai hb hp;exact⟨.int .u64 (row.getD 1 0),by simp only[V.den,C.den,E.I,q5],one (j:=j) (s:=s) 2 _ he q6 rfl⟩
   |_+3,h1,_=>exact h1.elim
 .exact h1.elim
def wo(hT:∀t i,(t,i)∈cx.ty->TIok P t i)(Ab:o.op=.call c)(hc:c.callee=.builtin .append){old id:Nat}(hl:DM vw.ev c.args.toList=ZA [.one (.sl old),.one (.sl id)])(Ci:c.argTypes.toList=[t,t])(hi:aj t cx.ty=ZA i)(ha:i.sle=ZA et)(AZ:aj et cx.ty=ZA ie)(hr:vw.evw id=ZA r)(Ke:vw.evw old=ZA q)(h3:ie.size=3)(Xm:ie.bytes<=65536)(Zb:r.own=ZB)(FE:q.own=ZB)(hqt:q.ty=et)(h:(AB (ic (A8 (bY q.l) (.p DW)) (A8 (bY r.l) (.p DW))) (fun b kw=>if b then k {val:=.one (.sl vw.nid),rr:=[old,id],re:=.app old ⟨CM,et,DK q.l r.l,ZB,.ev⟩} kw else .panic) kw).holds sp G ρ I)(hg:Good sp cx.sm ρ kw):Sound P sp ρ G I base cx vw o k kw:=by
 obtain⟨Bn,h1,g1,_,l1⟩:=aC _ _ _ h hg;rw[dQ,cC,cC,bO,bO]at h1;split at h1
 .rename_i DP;rw[ne]at DP;have JP:((q.l.R ρ).length:Int)<1073741824:=Ae DP.1;have Ds:((r.l.R ρ).length:Int)<1073741824:=Ae DP.2;refine⟨_,Bn,h1,g1,l1,fun j a w hb Ao A9 BS A3 Du K Q hK=> ?_⟩;obtain⟨s,hs,Ai,IG⟩:=A3.ev id (by simp) r hr;obtain⟨p,hp,GF,hzp⟩:=A3.ev old (by simp) q Ke;obtain⟨u1,u2,BD,HC,E5⟩:=My (j:=j) (a:=a) hl (fun x hx=>Ao x Xn);have e1:=oS hp HC;have e2:=oS hs E5;subst e1 e2;have hu:=(hT _ _ (af hi)).sle et ha;obtain⟨Cv,z,Ct,B5,Ez,hz,HI,Hp⟩:=(hT _ _ (af AZ)).info;have CU:c.argTypes = #[t,t]:=Xs;have hn:=Ai.n;have hpn:=GF.n;obtain⟨ip,i1,i2,i3,i4⟩:=GF.at';obtain⟨Tq,j1,j2,j3,j4⟩:=Ai.at';have AJ:=i2 FE;rw[hqt,<-h3,<-B5]at AJ;have Dv:=j3;rw[<-h3,<-B5]at Dv;obtain⟨s',w',h2,k3,h4,h5,h6,h7⟩:=eB (P:=P) (base:=base) (ty:=o.type) hu Ct hz Yv Fn AJ Dv sY X8
   (by
    have:(p.n+s.n)*Cv.bytes<=2147483648*65536:=Nat.mul_le_mul Fn Fn;omega) hb
  rw[nc i1,B5,h3,<-k3]at h4;have hR:(DK q.l r.l).R ρ=q.l.R ρ++r.l.R ρ:=aod ρ _ _;have Ka:=j2 Zb;refine cf (w':=w') (v:=s'.v) ?_ (hK _ (j.putS vw.nid {s' with z:=p.z++s.z}) _ ?_ ⟨p,{s' with z:=p.z++s.z},hp,h5,EvOk.row ⟨rfl,?_,⟨fun x hx=> ?_,?_⟩,fun k hk=> ?_,fun _ x hx=> ?_,ip++Tq,?_,fun _=> ?_,?_,fun m row x hm hx=> ?_⟩ rfl,h6,fun x hx=> ?_,rfl,fun e=>by cases e⟩)
  .simp only[execOp,Ab,resolve,hc,BD,CU,ZH,Sem.run_pure,Result.andThen_ok,invoke,builtin,h2]
  .simp only[V.den,C.den,J.putS,aW,ZK];rfl
  .show s'.n=((DK q.l r.l).R ρ).length;rw[hR,cQ];omega
  .have hx:x∈(DK q.l r.l).R ρ:=hx;rw[hR,ZS]at hx;rcases hx with hx|hx
   .have:=GF.rows.row x hx;rw[GF.ks]at this;exact this
   .have:=Ai.rows.row x hx;rw[Ai.ks]at this;exact this
  .show((DK q.l r.l).R ρ).length<=maxLen;rw[hR,cQ];simp only[maxLen];omega
  .exact(sE (s:=s') h4 k (ay hk)).1
  .rcases ZS.1 hx with hx|hx
   .exact GF.zb FE x hx
   .exact Ai.zb Zb x hx
  .show(ip++Tq).length=((DK q.l r.l).R ρ).length;rw[hR,cQ,cQ,i1,j1]
  .show w'.ownsRow base et 3 s'.v s'.n (fj ((DK q.l r.l).R ρ) (ip++Tq));rw[hR];exact h4
  .show RdRow w' 3 _ (fj ((DK q.l r.l).R ρ) (ip++Tq));rw[hR];exact qy h4
  .have hm:((DK q.l r.l).R ρ)[m]? =ZA row:=hm;rw[hR]at hm;rcases bn m (q.l.R ρ).length with Ap|Dp
   .rw[AW Ap]at hm;rw[AW Fn]at hx;exact(i4 m row x hm hx).mono (fun y hy=>YZ _ hy)
   .rw[Bc Dp]at hm;rw[Bc Fn,i1]at hx;exact(j4 _ row x hm hx).mono (fun y hy=>ZW _ hy)
  .rcases ZS.1 hx with hx|hx
   .exact hzp.1 x hx
   .exact IG.1 x hx
 .exact h1.elim
def JE(kd:IntKind):E->List C->Option E
 |l,[]=>ZA l
 |l,.int k e::cs=>if bB k kd then JE kd (.lq l (.cons e .nil)) cs else ZD
 |_,_=>ZD
def ajG{kd:IntKind}{j:J}:∀{cs:List C} {l l':E} {vs:List Value},JE kd l cs=ZA l'->Ad ρ j cs=ZA vs->(l'.R ρ).length=(l.R ρ).length+cs.length/\flat [ZA kd] (l'.R ρ)=flat [ZA kd] (l.R ρ)++vs
 |[],l,l',vs,h,hd=>by cases h;cases hd;simp
 |.int k e::cs,l,l',vs,h,hd=>by
   simp only[JE]at h;split at h
   .rename_i hk;simp only[Ad,C.den]at hd;cases hl:Ad ρ j cs with
    |none=>rw[hl]at hd;cases hd
    |some us=>rw[hl]at hd;cases hd;obtain⟨h1,h2⟩:=ajG h hl;refine⟨by rw[h1];simp[E.R];omega,?_⟩;rw[h2];simp only[E.R,E.L,lJ,List.append_assoc];congr 1;rw[av hk];rfl
   .exact ST
def IU(n:Nat)(lo hi:E):E:=ic (eM (A8 lo (.p 0))) (ic (eM (A8 hi lo)) (eM (A8 (.p n) hi)))
def aoc(h:(IU n lo hi).B ρ=ZB):0<=lo.I ρ/\lo.I ρ<=hi.I ρ/\hi.I ρ<=(n:Int):=by unfold IU at h;rw[dQ,dQ,ne,ne,db,db,db,cC,cC,cC,ZL,ZL,ZL]at h;obtain⟨h1,h2,h3⟩:=h;replace h1:¬lo.I ρ<0:=Af h1;replace h2:=Af h2;replace h3:¬(n:Int)<hi.I ρ:=Af h3;exact⟨by omega,by omega,by omega⟩
def rM{l:Nat}{low high:Option Value}(hl:(low=ZD/\l=0)\/∃kd:IntKind,low=ZA (.int kd (l:Int)))(hh:(high=ZD/\h=n)\/∃kd:IntKind,high=ZA (.int kd (h:Int)))(h1:l<=h)(h2:h<=n):(YX ZC n n low high ZD).run P w=.ok (l,h,n) w:=by
 have sb:∀(kd:IntKind) (m y:Nat) code,m<=y->(Instr.sliceBound (.int kd (m:Int)) y code).run P w=.ok m w:=fun kd m y code Qg=>by have h5:(m:Int)<=(y:Int):=Fn;simp[Instr.sliceBound,asIntOf,ZH,Qg]
 rcases hl with⟨rfl,rfl⟩|⟨kd,rfl⟩<;>rcases hh with⟨rfl,rfl⟩|⟨Hs,rfl⟩
 .exact Ye
 .simp[YX,ZH,sb Hs h n _ h2]
 .simp[YX,ZH,sb kd l _ _ h1]
 .simp[YX,ZH,sb kd l h _ h1,sb Hs h n _ h2]
def adu(hT:∀t i,(t,i)∈cx.ty->TIok P t i){lo:Option Operand}(Ab:o.op=.slice t x lo A6 ZD)(hx:vw.ev x=ZA (.one (.ptr b off)))(hi:aj t cx.ty=ZA i)(ha:i.arr=ZA (n,et))(AZ:aj et cx.ty=ZA ie){a c:E}(I6:FU vw lo (.p 0)=ZA a)(I4:FU vw A6 (.p n)=ZA c)(h:(AB (IU n a c) (fun ok kw=>if ok then k {val:=.one (.aw b off n ie.size a c (.p n))} kw else .panic) kw).holds sp G ρ I)(hg:Good sp cx.sm ρ kw):Sound P sp ρ G I base cx vw o k kw:=by
 obtain⟨Bn,h1,g1,_,l1⟩:=aC _ _ _ h hg;split at h1
 .rename_i hb;obtain⟨b1,b2,b3⟩:=aoc hb;refine⟨_,Bn,h1,g1,l1,OpOk.pure fun j ac w _ Ao _ _ _=> ?_⟩;obtain⟨kk,hk,hv⟩:=kU (Ao x Or _ hx);have hu:=(hT _ _ (af hi)).arr _ _ ha;have BC:=(hT _ _ (af AZ)).size w;have GY:(lo.map ac.eval=ZD/\(a.I ρ).toNat=0)\/∃kd:IntKind,lo.map ac.eval=ZA (.int kd (((a.I ρ).toNat:Nat):Int)):=by
   rcases vj I6 with⟨rfl,rfl⟩|⟨y,kd,rfl,hy⟩
   .exact .inl ⟨rfl,rfl⟩
   .refine .inr ⟨kd,?_⟩;rw[ZK,bS (Ao y Or _ hy),Int.toNat_of_nonneg b1]
  have P5:(A6.map ac.eval=ZD/\(c.I ρ).toNat=n)\/∃kd:IntKind,A6.map ac.eval=ZA (.int kd (((c.I ρ).toNat:Nat):Int)):=by
   rcases vj I4 with⟨rfl,rfl⟩|⟨y,kd,rfl,hy⟩
   .exact .inl ⟨rfl,by simp[E.I]⟩
   .refine .inr ⟨kd,?_⟩;rw[ZK,bS (Ao y Or _ hy),Int.toNat_of_nonneg Fn]
  refine⟨_,by simp only[V.den,C.den,hk,ZK,E.I];rfl,?_⟩;have b1':=rM (P:=P) (w:=w) GY P5 Fn Fn;have Be:(Instr.sliceAt t (.pointer (ZA ⟨kk,off,ZD⟩)) (lo.map ac.eval) (A6.map ac.eval) ZD).run P w=.ok ((⟨ZA ⟨kk,off,ZD⟩,n,n,[]⟩:SV).cut ie.size (a.I ρ).toNat (c.I ρ).toNat n).v w:=by simp only[Instr.sliceAt,ZH,run_underlying hu,Result.andThen_ok,ZR,asAddr,Sem.run_pure,b1',BC,SV.cut,SV.v];congr 2;split<;>rfl
  have e3:Option.map ac.eval (ZD:Option Operand)=ZD:=rfl;simp only[execOp,Ab,hv,ZH,e3,Be,Result.andThen_ok,Sem.run_pure];rfl
 .exact h1.elim
def adx(hT:∀t i,(t,i)∈cx.ty->TIok P t i)(Ab:o.op=.call c)(hc:c.callee=.builtin .append){A6 mx:E}(hl:DM vw.ev c.args.toList=ZA [.one .nsl,.one (.aw b off n 1 lo A6 mx)])(Ci:c.argTypes.toList=[t,t])(hi:aj t cx.ty=ZA i)(ha:i.sle=ZA et)(AZ:aj et cx.ty=ZA ie)(AG:vw.row b off n=ZA cs){L:E}(hL:JE kd .ln cs=ZA L)(hlok:L.lok kw.vk [ZA kd]=ZB)(Jr:ie.size=1)(Xm:ie.bytes<=65536)(OX:0<n)(Tf:n<=65536)(h:(AB (ic (IU n lo A6) (ic (eM (A8 mx A6)) (eM (A8 (.p n) mx)))) (fun ok kw=>if ok then k {val:=.one (.sl vw.nid),rd:=ed b off n,re:=.mk [⟨[ZA kd],et,gm (fI L A6) lo,ZB,CO [ZA kd]⟩]} kw else .stuck 224) kw).holds sp G ρ I)(hg:Good sp cx.sm ρ kw):Sound P sp ρ G I base cx vw o k kw:=by
 obtain⟨Bn,h1,g1,_,l1⟩:=aC _ _ _ h hg;split at h1
 .rename_i hb;rw[dQ,ne]at hb;obtain⟨b1,b2,b3⟩:=aoc hb.1;have I8:A6.I ρ<=mx.I ρ/\mx.I ρ<=(n:Int):=by
   have h9:=hb.2;rw[dQ,ne,db,db,cC,cC,ZL,ZL]at h9;have h7:=Af h9.1;have h8:¬((n:Int)<mx.I ρ):=Af h9.2;omega
  refine⟨_,Bn,h1,g1,l1,fun j a w PV Ao A9 BS A3 Du K Q hK=> ?_⟩;obtain⟨u1,u2,BD,HC,E5⟩:=My (j:=j) (a:=a) hl (fun x hx=>Ao x Xn);have e1:=xw HC;simp only[V.den,C.den,Av]at E5;obtain⟨kk,hk,e2⟩:=E5;subst e1 e2;have hu:=(hT _ _ (af hi)).sle et ha;obtain⟨Cv,z,Ct,B5,Ez,hz,HI,Hp⟩:=(hT _ _ (af AZ)).info;have CU:c.argTypes = #[t,t]:=Xs;obtain⟨MI,vs,EP,By⟩:=nR (ρ:=ρ) (w:=w) hk (vw.rowok _ _ _ _ AG) A9;obtain⟨q1,q2⟩:=ajG hL EP;simp only[E.R,List.length_nil,be,ama,ZM]at q1 q2;have vlen:vs.length=n:=by rw[aP EP,MI]
  have AH:RowsIn [ZA kd] (L.R ρ):=⟨E.lok_ok hg.vk L hlok,by rw[q1,MI];simp only[maxLen];omega⟩
  have TS:∀m,(⟨kk,off,ZD⟩:Addr).add m=⟨kk,off+m,ZD⟩:=fun m=>by unfold Addr.add;split<;>simp_all
  have Lb:SlOk ρ base w ⟨ZA ⟨kk,off,ZD⟩,n,n,[]⟩ ⟨[ZA kd],et,L,ZC,.sl⟩:=by
   refine⟨by show n=_;rw[q1,MI],AH,by simp,fun k BZ=> ?_,fun ho=>(by cases ho),?_⟩
   .have BZ:=ay BZ;simp only[SV.v,Value.ownBlock,aU]at BZ;subst BZ;have h0:0<vs.length:=Fn;exact World.block_lt_of_cell? w ⟨kk,off+0,ZD⟩ (By 0 vs[0] (Az h0))
   .refine⟨by rw[q2,vlen];simp,YJ _,by simp only[maxLen];omega,fun h=>ST,fun ad JN m u hm=> ?_⟩;cases JN;rw[TS];exact By m u (by rw[<-q2];exact hm)
  have HZ:=aaF (q:=⟨[ZA kd],et,gm (fI L A6) lo,ZC,.sl⟩) Lb ⟨rfl,rfl⟩ (by rw[mL,mJ]) (l:=(lo.I ρ).toNat) (h:=(A6.I ρ).toNat) (m:=(mx.I ρ).toNat) Fn (by show _<=n;omega) Fn (by show _<=n;omega);have hn:((⟨ZA ⟨kk,off,ZD⟩,n,n,[]⟩:SV).cut 1 (lo.I ρ).toNat (A6.I ρ).toNat (mx.I ρ).toNat).n=((gm (fI L A6) lo).R ρ).length:=HZ.n;have Dv:RdRow w Cv.size ((⟨ZA ⟨kk,off,ZD⟩,n,n,[]⟩:SV).cut 1 (lo.I ρ).toNat (A6.I ρ).toNat (mx.I ρ).toNat) (flat [ZA kd] ((gm (fI L A6) lo).R ρ)):=by rw[B5,Jr];exact HZ.rd
  have AE:((gm (fI L A6) lo).R ρ).length<=65536:=by rw[mL,mJ,ZV,YQ];omega
  obtain⟨s',w',h2,h3,h4,h5,h6,h7⟩:=eB (P:=P) (base:=w.heap.size) (ty:=o.type) hu Ct hz Yv Fn (World.ownsRow_nil w w.heap.size et Cv.size) Dv px (by rw[hn];simp only[maxLen];omega)
   (by
    have:(0+(SV.cut ⟨ZA ⟨kk,off,ZD⟩,n,n,[]⟩ 1 (lo.I ρ).toNat (A6.I ρ).toNat (mx.I ρ).toNat).n)*Cv.bytes<=65536*65536:=Nat.mul_le_mul (by rw[hn];omega) Fn;omega) (YJ _)
  simp only[be,ZM]at h3 h4;rw[B5,Jr]at h4;rw[<-h3]at h4;have KL:s'.n=((gm (fI L A6) lo).R ρ).length:=by rw[h3];exact hn
  refine cf (w':=w') (v:=s'.v) ?_ (hK _ (j.putL vw.nid [s']) _ RP (kY (Ext.of_grown h5) (RowOk.mk_own (r:=⟨[ZA kd],et,gm (fI L A6) lo,ZB,CO [ZA kd]⟩) (by cases kd<;>rfl) KL HZ.rows (by simp) h4) rfl rfl));simp only[execOp,Ab,resolve,hc,BD,CU,ZH,Sem.run_pure,Result.andThen_ok,invoke,builtin];simp only[h2,Result.andThen_ok]
 .exact h1.elim
def oJ(kd:IntKind)(l:E):∀(n i:Nat),(mZ kd l i n).all C.solid=ZB
 |0,_=>rfl
 |n+1,i=>by simp[mZ,C.solid,oJ kd l n (i+1)]
def sU{kd:IntKind}{l:E}{j:J}(hr:RowsIn [ZA kd] (l.R ρ)):∀(n i:Nat),i+n=(l.R ρ).length->Ad ρ j (mZ kd l i n)=ZA (flat [ZA kd] ((l.R ρ).drop i))
 |0,i,h=>by rw[List.drop_eq_nil_of_le Fn];rfl
 |n+1,i,h=>by
   have Ap:i<(l.R ρ).length:=Fn;have ih:=sU (j:=j) hr n (i+1) Fn;have hx:=cn (hr.row _ (List.getElem_mem Ap));obtain⟨x,ER⟩:∃x,(l.R ρ)[i]=[x]:=by
    match hq:(l.R ρ)[i],hx with
    |[x],_=>exact⟨x,rfl⟩
   rw[List.drop_eq_getElem_cons Ap,cr,ER];have hg:gt (l.R ρ) (i:Int) 0=x:=by unfold gt;rw[show(l.R ρ).getD ((i:Int)).toNat []=[x]from by rw[bh,cy,Az Ap,ER];rfl];rfl
   simp only[mZ,Ad,C.den,E.I,ih,hg];rfl
def zc(hT:∀t i,(t,i)∈cx.ty->TIok P t i)(Ab:o.op=.call c)(hc:c.callee=.builtin .copy){id:Nat}(hl:DM vw.ev c.args.toList=ZA [.one (.aw b off n 1 (.p 0) (.p n) (.p n)),.one (.sl id)])(Ci:c.argTypes.toList=[t,t'])(hi:aj t cx.ty=ZA i)(ha:i.sle=ZA et)(AZ:aj et cx.ty=ZA ie)(Jr:ie.size=1)(hr:vw.sw id=ZA r)(Bx:r.ks=[ZA kd])(OX:0<n)(h:(AB (FX (bY r.l) (.p n)) (fun ok kw=>if ok then k {val:=.one (.int .i64 (.p n)),wr:=eQ b off (mZ kd r.l 0 n),rr:=[id]} kw else .stuck 225) kw).holds sp G ρ I)(hg:Good sp cx.sm ρ kw):Sound P sp ρ G I base cx vw o k kw:=by
 obtain⟨Bn,h1,g1,_,l1⟩:=aC _ _ _ h hg;rw[qL,bO]at h1;split at h1
 .rename_i hb;have hb:(r.l.R ρ).length=n:=by
   have:=eq_of_beq hb;simp only[E.I]at this;omega
  refine⟨_,Bn,h1,g1,l1,fun j a w PV Ao A9 BS A3 Du K Q hK=> ?_⟩;obtain⟨s,hs,Ai⟩:=A3.sl id (by simp) r hr;obtain⟨u1,u2,BD,HC,E5⟩:=My (j:=j) (a:=a) hl (fun x hx=>Ao x Xn);simp only[V.den,C.den,Av]at HC;obtain⟨kk,hk,e1⟩:=HC;have e2:=oS hs E5;subst e1 e2;have hu:=(hT _ _ (af hi)).sle et ha;obtain⟨Cv,z,Ct,B5,_,_,_,_⟩:=(hT _ _ (af AZ)).info;have CU:c.argTypes = #[t,t']:=Xs;have Nr:s.n=n:=by rw[Ai.n,hb]
  have Dv:=Ai.rd;have AH:=Ai.rows;rw[Bx]at Dv AH;obtain⟨ad,JN⟩:∃ad,s.a=ZA ad:=by
   cases hsa:s.a with
   |some ad=>exact⟨ad,rfl⟩
   |none=>have:=(Dv.2.2.2.1 hsa).1;omega
  have Iy:(flat [ZA kd] (r.l.R ρ)).length=n:=by rw[Dv.1,Nr];simp
  have H0:Ad ρ j (mZ kd r.l 0 n)=ZA (flat [ZA kd] (r.l.R ρ)):=by have:=sU (j:=j) AH n 0 Fn;rwa [List.drop_zero]at this
  have Fl:=run_loadCells_list (P:=P) w ad (flat [ZA kd] (r.l.R ρ)) (fun m u hm=>Dv.2.2.2.2 ad JN m u hm);rw[Iy]at Fl;obtain⟨w',Nw,Kf⟩:=dD (P:=P) hk ⟨kk,off,ZD⟩ (mZ kd r.l 0 n) off 0 _ w (fun m=>by rw[be,bw]) H0 (oJ kd r.l n 0) BS;refine cf (w':=w') (v:=.int .i64 (n:Int)) ?_ (hK _ j w' (by simp[V.den,C.den,E.I]) ⟨rfl,w,.refl w,Nw⟩);obtain⟨sa,sn,sc,sz⟩:=s;simp only at JN Nr;subst JN Nr;have Bm:Cv.size=1:=by rw[B5,Jr]
  have HZ:((⟨ZA ⟨kk,off,ZD⟩,sn,sn,[]⟩:SV).cut 1 ((E.p 0).I ρ).toNat ((E.p (sn:Int)).I ρ).toNat ((E.p (sn:Int)).I ρ).toNat).v=.slice (ZA ⟨kk,off,ZD⟩) sn sn:=by have e5:((E.p 0).I ρ).toNat=0:=rfl;have e6:((E.p (sn:Int)).I ρ).toNat=sn:=cy sn;rw[e5,e6];simp only[SV.cut,SV.v,Nat.sub_zero];rw[aa (by omega:¬sn=0)];simp only[ZK,Nat.zero_mul,bw,ZP]
  rw[HZ]at BD;simp only[execOp,Ab,resolve,hc,BD,CU,ZH,Sem.run_pure,Result.andThen_ok,invoke,builtin,SV.v];simp[Builtin.copy_,run_underlying hu,Builtin.lenOf,Builtin.firstCells,sizeOf,typeInfo,Ct,Bm,Fl,Kf,goInt]
 .exact h1.elim
def opY(cx:Cx)(vw:Vw)(op:Op)(kw:Kw)(k:Eff->Kw->Tr):Option Tr:=match op with
 |.buildSlice t n ps=>match JK vw.ev ps.toList,aj t cx.ty with
   |some A0,ZA i=>match i.sle with
     |some et=>match aj et cx.ty with
       |some ie=>if ZI n 1&&ZI ie.size 3 then(match rS (fun m=>ZA (m*ie.size,ie.size)) ((YK 1 ie.zero).flatten) A0 with
         |some [.int .i64 e1,.sl id,.int .u64 e2]=>match vw.sw id with
           |some r=>if r.own&&(bZ r.ks [ZA .u64]&&(KZ kw.vk e1 e2 r.l).rok kw.vk CM)then
            ZA (AB (A8 (.p 5) (bY r.l)) (fun b Ak=>if b then .stuck 220 else k {val:=.one (.sl vw.nid),rr:=[id],re:=.frz id {r with own:=ZC} ⟨CM,et,.lq .ln (KZ kw.vk e1 e2 r.l),ZB,.ev⟩} Ak) kw)else ZD
           |none=>ZD
         |_=>ZD)else ZD
       |none=>ZD
     |none=>ZD
   |_,_=>ZD
 |.slice t x lo hi mx=>match vw.ev x,aj t cx.ty,mx with
   |some (.one (.ptr b off)),ZA i,ZD=>match i.arr with
     |some (n,et)=>match aj et cx.ty,FU vw lo (.p 0),FU vw hi (.p n)with
       |some ie,ZA a,ZA c=>if lo.isSome||hi.isSome then ZA (AB (IU n a c) (fun ok kw=>if ok then k {val:=.one (.aw b off n ie.size a c (.p n))} kw else .panic) kw)else ZD
       |_,_,_=>ZD
     |none=>ZD
   |_,_,_=>ZD
 |.indexAddr t x y=>match vw.ev x,vw.ev y,aj t cx.ty with
   |some (.one (.sl id)),ZA (.one (.int _ e)),ZA i=>match i.sle,vw.evw id with
     |some et,ZA r=>match aj et cx.ty with
       |some ie=>if ZI ie.size 3 then ZA (AB (Fo e r.l) (fun b kw=>if b then k {val:=.one (.ep id 3 e 0),rr:=[id]} kw else .panic) kw)else ZD
       |none=>ZD
     |_,_=>ZD
   |_,_,_=>ZD
 |.load t x=>match vw.ev x,aj t cx.ty with
   |some (.one (.ep id Bj e off)),ZA i=>match vw.evw id with
     |some r=>if ZI Bj 3 then ZA (AB (Fo e r.l) (fun b kw=>if b then
      (if i.agg then(if ZI i.size 3&&ZI off 0 then k {val:=.agg [.int .i64 (.get r.l e 0),.sl vw.nid,.int .u64 (.get r.l e 1)],rr:=[id],re:=.peek ⟨[ZA .u64],au3 cx r.ty,ot r.l e,ZC,.sl⟩} kw else .stuck 221)
      else an8 off (k {val:=.one (.int .i64 (.get r.l e 0)),rr:=[id]} kw) (k {val:=.one (.sl vw.nid),rr:=[id],re:=.peek ⟨[ZA .u64],au3 cx r.ty,ot r.l e,ZC,.sl⟩} kw) (k {val:=.one (.int .u64 (.get r.l e 1)),rr:=[id]} kw) (.stuck 222))
      else .stuck 223) kw)else ZD
     |none=>ZD
   |_,_=>ZD
 |.call c=>match c.callee with
   |.builtin .len=>match DM vw.ev c.args.toList,c.argTypes.toList with
     |some [.one (.sl id)],[t]=>match aj t cx.ty,vw.evw id with
       |some i,ZA r=>if i.sle.isSome then ZA (k {val:=.one (.int .i64 (D1 kw.vk r.l)),rr:=[id]} kw)else ZD
       |_,_=>ZD
     |_,_=>ZD
   |.builtin .append=>match DM vw.ev c.args.toList,c.argTypes.toList with
     |some [.one (.sl old),.one (.sl id)],[t,t']=>match aj t cx.ty,vw.evw id,vw.evw old with
       |some i,ZA r,ZA q=>match i.sle with
         |some et=>match aj et cx.ty with
           |some ie=>if ZI t t'&&(ZI ie.size 3&&(decide (ie.bytes<=65536)&&(r.own&&(q.own&&ZI q.ty et))))then
            ZA (AB (ic (A8 (bY q.l) (.p DW)) (A8 (bY r.l) (.p DW))) (fun b kw=>if b then k {val:=.one (.sl vw.nid),rr:=[old,id],re:=.app old ⟨CM,et,DK q.l r.l,ZB,.ev⟩} kw else .panic) kw)else ZD
           |none=>ZD
         |none=>ZD
       |_,_,_=>ZD
     |some [.one .nsl,.one (.aw b off n sz lo hi mx)],[t,t']=>match aj t cx.ty with
       |some i=>match i.sle with
         |some et=>match aj et cx.ty with
           |some ie=>match ie.ik,vw.row b off n with
             |some kd,ZA cs=>match JE kd .ln cs with
               |some L=>if ZI t t'&&(ZI ie.size 1&&(ZI sz 1&&(decide (ie.bytes<=65536)&&(decide (0<n)&&(decide (n<=65536)&&L.lok kw.vk [ZA kd])))))then
                ZA (AB (ic (IU n lo hi) (ic (eM (A8 mx hi)) (eM (A8 (.p n) mx)))) (fun ok kw=>if ok then k {val:=.one (.sl vw.nid),rd:=ed b off n,re:=.mk [⟨[ZA kd],et,gm (fI L hi) lo,ZB,CO [ZA kd]⟩]} kw else .stuck 224) kw)else ZD
               |none=>ZD
             |_,_=>ZD
           |none=>ZD
         |none=>ZD
       |none=>ZD
     |_,_=>ZD
   |.builtin .copy=>match DM vw.ev c.args.toList,c.argTypes.toList with
     |some [.one (.aw b off n sz (.p l0) (.p l1) (.p l2)),.one (.sl id)],[t,_]=>match aj t cx.ty with
       |some i=>match i.sle with
         |some et=>match aj et cx.ty with
           |some ie=>match vw.sw id with
             |some r=>match r.ks with
               |[ZA kd]=>if ZI ie.size 1&&(ZI sz 1&&(decide (0<n)&&(fy l0 0&&(fy l1 n&&fy l2 n))))then
                ZA (AB (FX (bY r.l) (.p n)) (fun ok kw=>if ok then k {val:=.one (.int .i64 (.p n)),wr:=eQ b off (mZ kd r.l 0 n),rr:=[id]} kw else .stuck 225) kw)else ZD
               |_=>ZD
             |none=>ZD
           |none=>ZD
         |none=>ZD
       |none=>ZD
     |_,_=>ZD
   |_=>ZD
 |_=>ZD
def ath(hT:∀t i,(t,i)∈cx.ty->TIok P t i){tr:Tr}(ht:opY cx vw o.op kw k=ZA tr)(h:tr.holds sp G ρ I)(hg:Good sp cx.sm ρ kw):Sound P sp ρ G I base cx vw o k kw:=by
 cases Ab:o.op<;>rw[Ab]at ht<;>simp only[opY]at ht
 case buildSlice t n ps=>
  split at ht
  .rename_i A0 i Gf hi;split at ht
   .rename_i et ha;split at ht
    .rename_i ie AZ;split at ht
     .rename_i hn;rw[ne]at hn;have Tf:=Ah hn.1;subst Tf;split at ht
      .rename_i e1 id e2 Eg;split at ht
       .rename_i r hr;split at ht
        next hq=>simp only[ne]at hq;cases ht;exact afX hT Ab Gf hi ha AZ Eg (Ah hn.2) hr hq.1 (bQ hq.2.1) hq.2.2 h hg
        .exact Xo
       .exact Xo
      .exact Xo
     .exact Xo
    .exact Xo
   .exact Xo
  .exact Xo
 case slice t x lo A6 mx=>
  split at ht
  .rename_i b off i hx hi;split at ht
   .rename_i n et ha;split at ht
    .rename_i ie a c AZ I6 I4;split at ht
     .cases ht;exact adu hT Ab hx hi ha AZ I6 I4 h hg
     .exact Xo
    .exact Xo
   .exact Xo
  .exact Xo
 case indexAddr t x y=>
  split at ht
  .rename_i id k0 e i hx hy hi;split at ht
   .rename_i et r ha hr;split at ht
    .rename_i ie AZ;split at ht
     next h3=>cases ht;exact yZ hT Ab hx hy hi ha AZ hr (Ah h3) h hg
     .exact Xo
    .exact Xo
   .exact Xo
  .exact Xo
 case load t x=>
  split at ht
  .rename_i id Bj e off i hx hi;split at ht
   .rename_i r hr;split at ht
    next h3=>have h3:=Ah h3;subst h3;cases ht;exact adt hT Ab hx hi hr h hg
    .exact Xo
   .exact Xo
  .exact Xo
 case call c=>
  split at ht
  .rename_i hc;split at ht
   .rename_i id t hl Ci;split at ht
    .rename_i i r hi hr;split at ht
     next E0=>cases ht;exact afY hT Ab hc hl Ci hi E0 hr h hg
     .exact Xo
    .exact Xo
   .exact Xo
  .rename_i hc;split at ht
   .rename_i old id t t' hl Ci;split at ht
    .rename_i i r q hi hr hq;split at ht
     .rename_i et ha;split at ht
      .rename_i ie AZ;split at ht
       next hp=>simp only[ne,ax]at hp;have e1:=Ah hp.1;subst e1;cases ht;exact wo hT Ab hc hl Ci hi ha AZ hr hq (Ah hp.2.1) hp.2.2.1 hp.2.2.2.1 hp.2.2.2.2.1 (Ah hp.2.2.2.2.2) h hg
       .exact Xo
      .exact Xo
     .exact Xo
    .exact Xo
   .rename_i b off n sz lo A6 mx t t' hl Ci;split at ht
    .rename_i i hi;split at ht
     .rename_i et ha;split at ht
      .rename_i ie AZ;split at ht
       .rename_i kd cs GX AG;split at ht
        .rename_i L hL;split at ht
         next hp=>simp only[ne,ax]at hp;obtain⟨p1,p2,p3,p4,p5,p6,p7⟩:=hp;have p1:=Ah p1;have p3:=Ah p3;subst p1 p3;cases ht;exact adx hT Ab hc hl Ci hi ha AZ AG hL p7 (Ah p2) p4 p5 p6 h hg
         .exact Xo
        .exact Xo
       .exact Xo
      .exact Xo
     .exact Xo
    .exact Xo
   .exact Xo
  .rename_i hc;split at ht
   .rename_i b off n sz l0 l1 l2 id t t' hl Ci;split at ht
    .rename_i i hi;split at ht
     .rename_i et ha;split at ht
      .rename_i ie AZ;split at ht
       .rename_i r hr;split at ht
        .rename_i kd Bx;split at ht
         next hp=>simp only[ne,ax]at hp;obtain⟨p1,p2,p3,p4,p5,p6⟩:=hp;have p2:=Ah p2;have p4:=cF p4;have p5:=cF p5;have p6:=cF p6;subst p2 p4 p5 p6;cases ht;exact zc hT Ab hc hl Ci hi ha AZ (Ah p1) hr Bx p3 h hg
         .exact Xo
        .exact Xo
       .exact Xo
      .exact Xo
     .exact Xo
    .exact Xo
   .exact Xo
  .exact Xo
 all_goals cases ht
def NV(cx:Cx)(vw:Vw)(op:Op)(kw:Kw)(k:Eff->Kw->Tr):Tr:=match opY cx vw op kw k with
 |some t=>t
 |none=>match opX cx vw op kw k with
   |some t=>t
   |none=>Tw cx vw op kw k
def aqA(hT:∀t i,(t,i)∈cx.ty->TIok P t i)(hS:∀s∈cx.sm,SmOk P sp s)(AO:∀s∈cx.sm,∀s'∈cx.sm,s.key=s'.key->s=s')(h:(NV cx vw o.op kw k).holds sp G ρ I)(hg:Good sp cx.sm ρ kw):Sound P sp ρ G I base cx vw o k kw:=by
 unfold NV at h;split at h
 next t ht=>exact ath hT ht h hg
 .split at h
  next t ht=>exact ati hT ht h hg
  .exact atk hT hS AO h hg
end
end Go.Proofs.YtgolejfhoefeaabGreatDoor
