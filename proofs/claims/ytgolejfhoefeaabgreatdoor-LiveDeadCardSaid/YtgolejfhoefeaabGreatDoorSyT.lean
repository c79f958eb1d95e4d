import Derived.Test.YtgolejfhoefeaabGreatDoorAbZ
set_option maxRecDepth 100000
set_option maxHeartbeats 8000000
set_option linter.defProp false
set_option linter.unusedVariables false
set_option linter.unusedSimpArgs false
namespace Go.Proofs.YtgolejfhoefeaabGreatDoor
open Option renaming some->ZA,none->ZD
open Bool renaming true->ZB,false->ZC
open Sem renaming run_bind->ZH
open Nat renaming beq->ZI,le_refl->YJ,add_zero->ZP
open List renaming replicate->YK,length_cons->YM,length_set->YU,all_cons->YV
open Go.Instr renaming sureAddr->ZR
open Go.RowKit
variable {kw:Kw}{t n:Nat}{i:TI}{e r l:E}{ks:List CE}{x y:Operand}{ρ:Env}{w:World}
def apR(cx:Cx):Option (Nat×List CE×Nat):=match aj 999995 cx.hints with
 |some [.tmpS t ks st]=>ZA (t,ks,st)
 |_=>ZD
def zV(cx:Cx)(t:Nat):Bool:=match aj 999994 cx.hints with
 |some [.only l]=>l.any (ZI t)
 |_=>ZC
def aiy(cx:Cx)(t:Nat):Bool:=match aj 999993 cx.hints with
 |some [.only l]=>l.any (ZI t)
 |_=>ZC
def C.isZk(kd:IntKind):C->Bool
 |.int k (.p z)=>bB k kd&&fy z 0
 |_=>ZC
def aeA{ρ:Env}{j:J}{kd:IntKind}:∀{cs:List C} {vs:List Value},cs.all (C.isZk kd)=ZB->Ad ρ j cs=ZA vs->vs=YK cs.length (.int kd 0)
 |[],vs,_,h=>by cases h;rfl
 |c::cs,vs,hc,h=>by
   rw[YV,ne]at hc;have h1:=hc.1;unfold C.isZk at h1;split at h1
   .rename_i k z;rw[ne]at h1;have e1:=av h1.1;have e2:=cF h1.2;subst e1 e2;simp only[Ad,C.den,E.I]at h;cases hl:Ad ρ j cs with
    |none=>rw[hl]at h;cases h
    |some us=>rw[hl]at h;cases h;rw[aeA hc.2 hl];rfl
   .cases h1
def tI:List CE->E
 |[]=>.nil
 |none::ks=>.j (.tt ZC) (tI ks)
 |some _::ks=>.cons (.p 0) (tI ks)
def yo(ρ:Env):∀ks:List CE,(tI ks).L ρ=YK ks.length 0
 |[]=>rfl
 |none::ks=>by simp only[tI,E.L,yo ρ ks,E.B,YM,List.replicate_succ];rfl
 |some _::ks=>by simp only[tI,E.L,yo ρ ks,E.I,YM,List.replicate_succ]
def TZ:∀ks:List CE,aq ks (YK ks.length 0)=ZB
 |[]=>rfl
 |none::ks=>by simp[List.replicate_succ,aq,CV,TZ ks]
 |some k::ks=>by simp[List.replicate_succ,aq,CV,kD,TZ ks]
def C.isNilp:C->Bool
 |.np=>ZB
 |_=>ZC
def xy{ρ:Env}{j:J}:∀{cs:List C} {vs:List Value},cs.all C.isNilp=ZB->Ad ρ j cs=ZA vs->vs=(YK cs.length (ZD:Option Addr)).map Value.pointer
 |[],vs,_,h=>by cases h;rfl
 |c::cs,vs,hc,h=>by
   rw[YV,ne]at hc;cases c<;>first|cases hc.1|skip
   simp only[Ad,C.den]at h;cases hl:Ad ρ j cs with
   |none=>rw[hl]at h;cases h
   |some us=>rw[hl]at h;cases h;rw[xy hc.2 hl];rfl
def IW(l e:E):Nat->List CE->E
 |_,[]=>.nil
 |c,ZD::ks=>.j (qK l e c) (IW l e (c+1) ks)
 |c,ZA _::ks=>.cons (rO l e c) (IW l e (c+1) ks)
def an4{ρ:Env}{l e:E}{row:List Int}(h:(l.R ρ)[(e.I ρ).toNat]? =ZA row):∀(ks:List CE) (c:Nat),aq ks (row.drop c)=ZB->(IW l e c ks).L ρ=row.drop c
 |[],c,hr=>by
   cases hd:row.drop c with
   |nil=>rfl
   |cons x xs=>rw[hd]at hr;cases hr
 |k::ks,c,hr=>by
   cases hd:row.drop c with
   |nil=>rw[hd]at hr;cases hr
   |cons x xs=>
     have hx:row.getD c 0=x:=by have:=congrArg List.head? hd;rw[List.head?_drop]at this;rw[bh,this];rfl
     have LV:row.drop (c+1)=xs:=by rw[<-List.tail_drop,hd];rfl
     rw[hd]at hr;simp only[aq,ne]at hr;have hg:gt (l.R ρ) (e.I ρ) c=x:=by unfold gt;rw[bh (l:=l.R ρ),h];exact hx
     have ih:=an4 h ks (c+1) (by rw[LV];exact hr.2);rw[LV]at ih;cases k with
     |some kd=>simp only[IW,E.L,zK,hg,ih]
     |none=>have h0:=hr.1;simp only[CV,eu,cb]at h0;simp only[IW,E.L,uT,hg,ih];rcases h0 with rfl|rfl<;>rfl
def Ex(l e:E)(c:Nat)(ks:List CE):E:=match(mN l e).bind (Ou c)with
 |some t=>t
 |none=>IW l e c ks
def TN{ρ:Env}:∀{c:Nat} {row t:E},Ou c row=ZA t->t.L ρ=(row.L ρ).drop c
 |0,row,t,h=>by cases h;rfl
 |c+1,.cons _ u,t,h=>TN (c:=c) (row:=u) h
 |c+1,.j _ u,t,h=>TN (c:=c) (row:=u) h
def ah4(h:mN l e=ZA r):(l.R ρ)[(e.I ρ).toNat]? =ZA (r.L ρ):=by
 unfold mN at h;split at h
 next i=>exact xf ρ l i r h
 .exact ST
def an3{row:List Int}(h:(l.R ρ)[(e.I ρ).toNat]? =ZA row)(ks:List CE)(c:Nat)(hr:aq ks (row.drop c)=ZB):(Ex l e c ks).L ρ=row.drop c:=by
 unfold Ex;split
 next t ht=>rw[cW]at ht;obtain⟨r,h1,h2⟩:=ht;have h3:=ah4 (ρ:=ρ) h1;rw[h]at h3;cases h3;exact TN h2
 .exact an4 h ks c hr
def nS:∀{ks:List CE} {row:List Int} (c:Nat),aq ks row=ZB->aq (ks.drop c) (row.drop c)=ZB
 |ks,row,0,h=>h
 |[],[],c+1,_=>rfl
 |k::ks,x::xs,c+1,h=>by simp only[aq,ne]at h;exact nS c h.2
def qs:∀{ks:List CE} {row:List Int} (c m:Nat),aq ks row=ZB->(Ax ks row)[c+m]? =(Ax (ks.drop c) (row.drop c))[m]?
 |ks,row,0,m,h=>by rw[be];rfl
 |[],[],c+1,m,_=>by simp[Ax]
 |k::ks,x::xs,c+1,m,h=>by simp only[aq,ne]at h;rw[show c+1+m=(c+m)+1 by omega];simpa[Ax]using qs c m h.2
def oD:List CE->E->List C->Option E
 |_,t,[]=>ZA t
 |some k::ks,.cons _ t,.int k' x::cs=>if bB k' k then(oD ks t cs).map (.cons x ·)else ZD
 |none::ks,.j _ t,.bool x::cs=>(oD ks t cs).map (.j x ·)
 |_,_,_=>ZD
def zx:Nat->List CE->E->List C->Option E
 |0,ks,t,cs=>oD ks t cs
 |off+1,_::ks,.cons a t,cs=>(zx off ks t cs).map (.cons a ·)
 |off+1,_::ks,.j a t,cs=>(zx off ks t cs).map (.j a ·)
 |_,_,_,_=>ZD
def amV(R:List Int)(c:Nat)(x:Int):st [R] 0 c x=[R.set c x]:=rfl
def agf(P R:List Int)(y x:Int):(P++y::R).set P.length x=(P++[x])++R:=by simp
def qt{ρ:Env}{vk:List VK}:∀(cs:List C) (ks:List CE) (t t' l:E) (Q:List Int),cs.all (C.rng vk)=ZB->oD ks t cs=ZA t'->l.R ρ=[Q++t.L ρ]->∃l',gj vk l (.p 0) Q.length ks cs=ZA l'/\l'.R ρ=[Q++t'.L ρ]
 |[],ks,t,t',l,Q,_,h,hl=>by
   have e:t'=t:=by
    unfold oD at h;cases ks with
    |nil=>exact(Option.some.inj h).symm
    |cons k ks=>cases k<;>exact(Option.some.inj h).symm
   subst e;refine⟨l,?_,hl⟩;unfold gj;cases ks with
   |nil=>rfl
   |cons k ks=>cases k<;>rfl
 |c::cs,ks,t,t',l,Q,hr,h,hl=>by
   simp only[YV,ne]at hr;cases ks with
   |nil=>simp[oD]at h
   |cons k ks=>
     cases k with
     |some kd=>
       cases t<;>cases c<;>simp only[oD]at h<;>first|cases h|skip
       rename_i a t k' x;split at h
       .rename_i hk;rw[Av]at h;obtain⟨t1,h1,rfl⟩:=h;obtain⟨l',h2,h3⟩:=qt (ρ:=ρ) cs ks t t1 (.lset l (.p 0) Q.length x) (Q++[x.I ρ]) hr.2 h1 (by simp only[E.R,E.L,E.I,hl,amV,agf]);refine⟨l',?_,by rw[h3];simp[E.L]⟩;have Dj:(bB k' kd&&x.rng vk kd)=ZB:=by
         have h9:x.rng vk k'=ZB:=hr.1;rw[av hk]at h9;rw[hk,h9];rfl
        simp only[gj,Dj,aW];rw[<-h2];simp
       .exact ST
     |none=>
       cases t<;>cases c<;>simp only[oD]at h<;>first|cases h|skip
       rename_i a t x;rw[Av]at h;obtain⟨t1,h1,rfl⟩:=h;obtain⟨l',h2,h3⟩:=qt (ρ:=ρ) cs ks t t1 (.lsetb l (.p 0) Q.length x) (Q++[Ay (x.B ρ)]) hr.2 h1 (by simp only[E.R,E.L,E.I,hl,amV,agf]);refine⟨l',?_,by rw[h3];simp[E.L]⟩;simp only[gj];rw[<-h2];simp
def uG{ρ:Env}{vk:List VK}:∀(off:Nat) (cs:List C) (ks:List CE) (t t' l:E) (Q:List Int),cs.all (C.rng vk)=ZB->zx off ks t cs=ZA t'->l.R ρ=[Q++t.L ρ]->∃l',gj vk l (.p 0) (Q.length+off) (ks.drop off) cs=ZA l'/\l'.R ρ=[Q++t'.L ρ]
 |0,cs,ks,t,t',l,Q,hr,h,hl=>qt cs ks t t' l Q hr (by cases ks<;>exact h) hl
 |off+1,cs,ks,t,t',l,Q,hr,h,hl=>by
   cases ks with
   |nil=>simp[zx]at h
   |cons k ks=>
     cases t<;>simp only[zx]at h<;>first|cases h|skip
     next a t=>rw[Av]at h;obtain⟨t1,h1,rfl⟩:=h;obtain⟨l',h2,h3⟩:=uG (ρ:=ρ) off cs ks t t1 l (Q++[a.I ρ]) hr h1 (by rw[hl];simp[E.L]);refine⟨l',?_,by rw[h3];simp[E.L]⟩;rw[<-h2];simp only[List.drop_succ_cons,cQ,YM,List.length_nil];congr 1;omega
     next a t=>rw[Av]at h;obtain⟨t1,h1,rfl⟩:=h;obtain⟨l',h2,h3⟩:=uG (ρ:=ρ) off cs ks t t1 l (Q++[Ay (a.B ρ)]) hr h1 (by rw[hl];simp[E.L]);refine⟨l',?_,by rw[h3];simp[E.L]⟩;rw[<-h2];simp only[List.drop_succ_cons,cQ,YM,List.length_nil];congr 1;omega
def Ga(l e:E):E:=match l with
 |.lput _ e' row=>if e'.same e then .lq .ln row else l
 |l=>l
def GO(l e:E):E:=match l with
 |.lput _ e' _=>if e'.same e then .p 0 else e
 |_=>e
def asX{row:List Int}(h:(l.R ρ)[(e.I ρ).toNat]? =ZA row):((Ga l e).R ρ)[((GO l e).I ρ).toNat]? =ZA row:=by
 cases l<;>first|exact h|skip
 rename_i a e' r;simp only[Ga,GO];split
 next hs=>have he:=E.same_eq hs;subst he;simp only[E.R]at h;have Ap:=(bX.1 h).1;rw[YU]at Ap;rw[List.getElem?_set_self Ap]at h;simpa[E.R,E.I]using h
 .exact h
def Vw.tabw(vw:Vw)(id:Nat):Option RowOb:=match vw.rw id with
 |some r=>match r.kd with
   |.tab=>ZA r
   |_=>ZD
 |none=>ZD
def Vw.tabw_some{vw:Vw}{id:Nat}{r:RowOb}(h:vw.tabw id=ZA r):vw.rw id=ZA r/\r.kd=.tab:=by
 unfold Vw.tabw at h;split at h
 .rename_i q hq;split at h
  next hk=>cases h;exact⟨hq,hk⟩
  .exact ST
 .exact ST
section
variable {P:Program}{sp:Spec}{ρ:Env}{G:Env->E->Prop}{I:Nat->List Dt->Prop}{base:Nat}{cx:Cx}{vw:Vw}{o:Oper}{k:Eff->Kw->Tr}
def RrOk.tb{j:J}{rr:List Nat}(h:RrOk ρ base j w vw.rw rr)(id:Nat)(E7:id∈rr)(r:RowOb)(hr:vw.tabw id=ZA r):∃s,j.s id=ZA s/\HdOk ρ base w s r/\TbAt ρ j w s r/\∀k o,j.g.z k=ZA o->w.heap[k]? =ZA o:=by obtain⟨h1,h2⟩:=Vw.tabw_some hr;obtain⟨s,h3,h4,_,_,h5⟩:=h id E7 r h1;exact⟨s,h3,h4.2.1 (by rw[h2];rfl),(h5 h2).1,(h5 h2).2⟩
def ahD{cells:Array Value}(h1:cells.toList=Ax ks (r.L ρ))(h2:aq ks (r.L ρ)=ZB)(h3:0<ks.length):RowOk ρ w.heap.size (w.alloc (.cells cells t)) ⟨ZA ⟨w.heap.size,0,ZD⟩,1,1,[]⟩ ⟨ks,t,.lq .ln r,ZB,.sl⟩:=by
 have e:(E.lq .ln r).R ρ=[r.L ρ]:=by simp[E.R]
 have f:flat ks [r.L ρ]=cells.toList:=by rw[h1];simp[flat]
 have hs:cells.size=1*ks.length:=by have:=congrArg List.length h1;rw[dm h2]at this;simpa using this
 have own:=World.ownsRow_lit (base:=w.heap.size) (e:=t) (size:=ks.length) w cells 1 (YJ _) (by simp[maxLen]) hs;refine RowOk.mk_own rfl (by rw[e];rfl) ⟨fun q hq=> ?_,by rw[e];simp[maxLen]⟩ h3 ?_
 .rw[e,cV]at hq;rw[hq];exact h2
 .rw[e,f];exact own
def RV{j:J}{nid g a b:Nat}:(V.one (.ep nid n (.p 0) 0)).den ρ (j.putL nid [⟨ZA ⟨g,0,ZD⟩,a,b,[]⟩])=ZA (.pointer (ZA ⟨g,0,ZD⟩)):=by simp[V.den,C.den,J.putL,SV.elem,E.I,bw]
def wv(hT:∀t i,(t,i)∈cx.ty->TIok P t i)(Ab:o.op=.alloc t)(hi:aj t cx.ty=ZA i)(hr:D3 kw.vk ks i.zero=ZA r)(Ej:0<ks.length)(h:(k {val:=.one (.ep vw.nid ks.length (.p 0) 0),re:=.mk [⟨ks,t,.lq .ln r,ZB,.sl⟩]} kw).holds sp G ρ I)(hg:Good sp cx.sm ρ kw):Sound P sp ρ G I base cx vw o k kw:=by
 refine⟨_,kw,h,hg,.refl _,fun j a w hb Ao A9 BS A3 Du K Q hK=> ?_⟩;obtain⟨z,hz,hd⟩:=(hT _ _ (af hi)).zero;obtain⟨h1,h2⟩:=jP hg.vk hr (hd ρ j);refine cf (w':=w.alloc (.cells z.cells t)) (v:=.pointer (ZA ⟨w.heap.size,0,ZD⟩)) ?_ (hK _ (j.putL vw.nid [⟨ZA ⟨w.heap.size,0,ZD⟩,1,1,[]⟩]) _ RV (kY (Ext.of_grown (World.grownBy_alloc w _ ZD)) (ahD h1 h2 Ej) rfl rfl));simp[execOp,Ab,Instr.alloc,ZH,hz,newVar,newRow,newObj,Sem.run]
def adv(Ab:o.op=.box t x){v:V}(hv:vw.ev x=ZA v)(hf:v.flat=ZB)(hr:D3 kw.vk ks v.cells=ZA r)(Ej:0<ks.length)(h:(k {val:=.one (.ep vw.nid ks.length (.p 0) 0),re:=.mk [⟨ks,t,.lq .ln r,ZB,.sl⟩]} kw).holds sp G ρ I)(hg:Good sp cx.sm ρ kw):Sound P sp ρ G I base cx vw o k kw:=by
 refine⟨_,kw,h,hg,.refl _,fun j a w hb Ao A9 BS A3 Du K Q hK=> ?_⟩;have hd:=V.cells_ok (Ao x Or v hv) hf;obtain⟨h1,h2⟩:=jP hg.vk hr hd;refine cf (w':=w.alloc (.cells (a.eval x).cells t)) (v:=.pointer (ZA ⟨w.heap.size,0,ZD⟩)) ?_ (hK _ (j.putL vw.nid [⟨ZA ⟨w.heap.size,0,ZD⟩,1,1,[]⟩]) _ RV (kY (Ext.of_grown (World.grownBy_alloc w _ ZD)) (ahD h1 h2 Ej) rfl rfl));simp[execOp,Ab,Instr.box,ZH,newVar,newRow,newObj,Sem.run]
def wu(hT:∀t i,(t,i)∈cx.ty->TIok P t i)(Ab:o.op=.alloc t)(hi:aj t cx.ty=ZA i)(ks:List CE)(st:Nat)(hn:i.zero.all C.isNilp=ZB)(hl:i.zero.length<=65536)(h:(k {val:=.one (.ep vw.nid 1 (.p 0) 0),re:=.mk [⟨ZD::ks,st,.lrep (.p i.zero.length) (tI (ZD::ks)),ZB,.tab⟩]} kw).holds sp G ρ I)(hg:Good sp cx.sm ρ kw):Sound P sp ρ G I base cx vw o k kw:=by
 refine⟨_,kw,h,hg,.refl _,fun j a w hb Ao A9 BS A3 Du K Q hK=> ?_⟩;obtain⟨z,hz,hd⟩:=(hT _ _ (af hi)).zero;have e:=xy hn (hd ρ j);have CJ:z.cells=((YK i.zero.length (ZD:Option Addr)).map Value.pointer).toArray:=by rw[<-e,Array.toArray_toList]
 have hR:(E.lrep (.p i.zero.length) (tI (ZD::ks))).R ρ=YK i.zero.length (YK (ks.length+1) 0):=by simp only[E.R,E.I,yo,cy,YM]
 have hhp:=heap_alloc_new w (.cells z.cells t);refine cf (w':=w.alloc (.cells z.cells t)) (v:=.pointer (ZA ⟨w.heap.size,0,ZD⟩)) ?_ (hK _ (j.putL vw.nid [⟨ZA ⟨w.heap.size,0,ZD⟩,1,1,[]⟩]) _ RV (kY (Ext.of_grown (World.grownBy_alloc w _ ZD)) (HdOk.row ⟨rfl,⟨fun q hq=> ?_,?_⟩,rfl,w.heap.size,_,rfl,YJ _,hhp,?_⟩ rfl) rfl rfl rfl (fun _ jj=>⟨w.heap.size,YK i.zero.length ZD,t,rfl,by rw[<-CJ];exact hhp,by rw[hR];simp,fun m row p hm hp=> ?_⟩)))
 .exact XG
 .rw[hR]at hq;rw[(List.mem_replicate.1 hq).2];exact TZ (ZD::ks)
 .rw[hR,List.length_replicate];simp only[maxLen];omega
 .exact⟨YK i.zero.length ZD,t,by rw[<-CJ]⟩
 .have OZ:=ew hp;rw[(List.mem_replicate.1 OZ).2];have hm:((E.lrep (.p i.zero.length) (tI (ZD::ks))).R ρ)[m]? =ZA row:=hm;rw[hR]at hm;rw[(List.mem_replicate.1 (ew hm)).2];simp[PtIs,List.replicate_succ]
def ww(hT:∀t i,(t,i)∈cx.ty->TIok P t i)(Ab:o.op=.alloc t)(hi:aj t cx.ty=ZA i){kd:IntKind}(hn:i.zero.all (C.isZk kd)=ZB)(hl:i.zero.length<=65536)(h:(k {val:=.one (.ep vw.nid 1 (.p 0) 0),re:=.mk [⟨[ZA kd],t,.lrep (.p i.zero.length) (.cons (.p 0) .nil),ZB,.sl⟩]} kw).holds sp G ρ I)(hg:Good sp cx.sm ρ kw):Sound P sp ρ G I base cx vw o k kw:=by
 refine⟨_,kw,h,hg,.refl _,fun j a w hb Ao A9 BS A3 Du K Q hK=> ?_⟩;obtain⟨z,hz,hd⟩:=(hT _ _ (af hi)).zero;have e:=aeA hn (hd ρ j);have hR:(E.lrep (.p i.zero.length) (.cons (.p 0) .nil)).R ρ=YK i.zero.length [0]:=by simp only[E.R,E.I,E.L,cy]
 have E6:flat [ZA kd] (YK i.zero.length [0])=z.cells.toList:=by
  rw[e];generalize i.zero.length=m
  induction m with
  |zero=>rfl
  |succ m ih=>rw[List.replicate_succ,cr,ih,List.replicate_succ];rfl
 have BC:z.cells.size=i.zero.length*1:=by have:=congrArg List.length e;simpa using this
 have own:=World.ownsRow_lit (base:=w.heap.size) (e:=t) (size:=1) w z.cells i.zero.length (YJ _) X8 BC;refine cf (w':=w.alloc (.cells z.cells t)) (v:=.pointer (ZA ⟨w.heap.size,0,ZD⟩)) ?_ (hK _ (j.putL vw.nid [⟨ZA ⟨w.heap.size,0,ZD⟩,i.zero.length,i.zero.length,[]⟩]) _ RV (kY (Ext.of_grown (World.grownBy_alloc w _ ZD)) (RowOk.mk_own rfl (by rw[hR];simp) ⟨fun q hq=> ?_,?_⟩ (by simp) (by rw[hR,E6];exact own)) rfl rfl))
 .exact XG
 .rw[hR]at hq;rw[(List.mem_replicate.1 hq).2];simp[aq,CV,kD]
 .rw[hR,List.length_replicate];simp only[maxLen];omega
def vZ(hT:∀t i,(t,i)∈cx.ty->TIok P t i)(Ab:o.op=.indexAddr t x y){id:Nat}(hx:vw.ev x=ZA (.one (.ep id 1 (.p 0) 0))){k0:IntKind}(hy:vw.ev y=ZA (.one (.int k0 e)))(hi:aj t cx.ty=ZA i){et:Nat}(ha:i.arr=ZA (n,et)){ie:TI}(AZ:aj et cx.ty=ZA ie)(Jr:ie.size=1)(h:(AB (Jv e n) (fun ok kw=>if ok then k {val:=.one (.ep id 1 e 0)} kw else .panic) kw).holds sp G ρ I)(hg:Good sp cx.sm ρ kw):Sound P sp ρ G I base cx vw o k kw:=by
 obtain⟨Bn,g1,q1,_,l1⟩:=aC _ _ _ h hg;rw[Pt]at g1;split at g1
 .rename_i hr;rw[ne,ax,ax]at hr;have hu:=(hT _ _ (af hi)).arr n et ha;have hs:=(hT _ _ (af AZ)).size;refine⟨_,Bn,g1,q1,l1,OpOk.pure fun j a w _ Ao _ _ _=> ?_⟩;have hd:=Ao x Or _ hx;simp only[V.den,C.den,cW,SV.elem,Av]at hd;obtain⟨s,Cj,p,hp,he⟩:=hd;have hq:=bS (Ao y Or _ hy);refine⟨.pointer (ZA (p.add ((e.I ρ).toNat*1+0))),by simp[V.den,C.den,Cj,SV.elem,hp],?_⟩;have Gx:=he.symm;simp only[E.I,Int.toNat_zero,Nat.zero_mul,ZP]at Gx;have IX:(p.add 0).add ((e.I ρ).toNat*1)=p.add ((e.I ρ).toNat*1+0):=by rw[bC];congr 1;omega
  rw[<-IX];simp[execOp,Ab,Gx,hq,Instr.indexAt,run_underlying hu,ZR,asIntOf,hr,hs,Jr,ZH]
 .exact g1.elim
def vD(g m:Nat):(⟨g,0,ZD⟩:Addr).add m=⟨g,m,ZD⟩:=by rw[bw,be]
def aaZ{g ty m:Nat}{ps:List (Option Addr)}{p:Option Addr}(hh:w.heap[g]? =ZA (.cells (ps.map Value.pointer).toArray ty (0,0)))(hp:ps[m]? =ZA p):w.cell? ⟨g,m,ZD⟩=ZA (.pointer p):=by simp[World.cell?,hh,hp]
def yW(hT:∀t i,(t,i)∈cx.ty->TIok P t i)(Ab:o.op=.load t x){id:Nat}(hx:vw.ev x=ZA (.one (.ep id 1 e 0)))(hi:aj t cx.ty=ZA i)(Bh:i.agg=ZC){r:RowOb}(hr:vw.tabw id=ZA r)(Bx:r.ks=ZD::ks)(Ej:0<ks.length)(h:(AB (Fo e r.l) (fun ok kw=>if ok then AB (qK (Ga r.l e) (GO r.l e) 0) (fun b kw=>if b then k {val:=.one (.ep vw.nid ks.length (.p 0) 0),rr:=[id],re:=.peek ⟨ks,r.ty,.lq .ln (Ex (Ga r.l e) (GO r.l e) 1 ks),ZC,.sl⟩} kw else k {val:=.one .np,rr:=[id]} kw) kw else .stuck 270) kw).holds sp G ρ I)(hg:Good sp cx.sm ρ kw):Sound P sp ρ G I base cx vw o k kw:=by
 obtain⟨Bn,h1,g1,_,l1⟩:=aC _ _ _ h hg;rw[rQ]at h1;have ht:=hT _ _ (af hi);split at h1
 .rename_i hb;simp only[ne,ax]at hb;obtain⟨Dd,h2,g2,_,l2⟩:=aC _ _ _ h1 g1;rw[uT]at h2;have Ap:(e.I ρ).toNat<(r.l.R ρ).length:=Fn;have AG:=Az Ap;obtain⟨row,EZ⟩:∃row,row=(r.l.R ρ)[(e.I ρ).toNat]:=⟨_,rfl⟩
  rw[<-EZ]at AG;have Cu:=asX AG;have hg0:gt ((Ga r.l e).R ρ) ((GO r.l e).I ρ) 0=row.getD 0 0:=by unfold gt;rw[bh (l:=(Ga r.l e).R ρ),Cu];rfl
  rw[hg0]at h2;have cell:∀{j:J} {a:Act} {w:World} {s:SV},j.s id=ZA s->TbAt ρ j w s r->(V.one (.ep id 1 e 0)).den ρ j=ZA (a.eval x)->∃p,PtIs j r.ks row p/\(execOp a.eval o).run P w=.ok (.value (.pointer p)) w:=by intro j a w s hs Ia hd;obtain⟨g,ps,ty,a1,a2,a3,a4⟩:=Ia;obtain⟨q,hq,he⟩:=oV hs hd;rw[a1]at hq;cases hq;have hp:=Az (show(e.I ρ).toNat<ps.length by omega);refine⟨_,a4 _ _ _ AG hp,?_⟩;have hc:=aaZ a2 hp;rw[vD,Nat.mul_one,ZP]at he;simp[execOp,Ab,he,Instr.loadAt,ZR,ZH,loadVar,ht.agg,Bh,load,Sem.run,hc]
  split at h2
  .rename_i h0;rw[cb]at h0;refine⟨_,Dd,h2,g2,l2.trans l1,fun j a w PV Ao A9 BS A3 Du K Q hK=> ?_⟩;obtain⟨s,hs,Ai,Ia,hz⟩:=A3.tb id (by simp) r hr;obtain⟨p,hp,Be⟩:=cell hs Ia (Ao x Or _ hx);cases p with
   |none=>rw[show row.getD 0 0=0 from hp]at h0;cases h0
   |some q=>
     obtain⟨_,⟨b,f,rfl⟩,vs,ty,z1,z2⟩:=hp;have CD:=Ai.rows.row row (ew AG);rw[Bx]at CD z2;have Gy:aq ks (row.drop 1)=ZB:=nS 1 CD;have hL:=an3 Cu ks 1 Gy;have hh:=hz _ _ z1;have hR:(E.lq .ln (Ex (Ga r.l e) (GO r.l e) 1 ks)).R ρ=[row.drop 1]:=by simp[E.R,hL]
     have E6:flat ks [row.drop 1]=Ax ks (row.drop 1):=by simp[flat]
     refine cf (w':=w) Be (hK _ (j.putS vw.nid ⟨ZA ⟨b,f,ZD⟩,1,1,[]⟩) w ?_ ⟨rfl,⟨ZA ⟨b,f,ZD⟩,1,1,[]⟩,SlOk.row ⟨by rw[hR];rfl,⟨fun q hq=> ?_,by rw[hR];simp[maxLen]⟩,Ej,fun k hk=> ?_,fun ho=>(by cases ho),?_⟩ rfl,fun k hk=> ?_,rfl,rfl,fun e=>(by cases e)⟩)
     .simp[V.den,C.den,J.putS,SV.elem,E.I,bw]
     .rw[hR,cV]at hq;rw[hq];exact Gy
     .have hk:=ay hk;simp only[SV.v,Value.ownBlock,aU]at hk;subst hk;exact(fL.1 hh).1
     .show RdRow w ks.length _ (flat ks ((E.lq .ln (Ex (Ga r.l e) (GO r.l e) 1 ks)).R ρ));rw[hR,E6];refine⟨by rw[dm Gy];simp,YJ _,by simp[maxLen],fun h=>ST,fun ad JN m u hm=> ?_⟩;cases JN;rw[bw];have e1:(Ax (ZD::ks) row)[m+1]? =ZA u:=by
       have:=qs (ks:=ZD::ks) 1 m CD;rw[Nat.add_comm,this];exact hm
      have e2:=z2 m u e1;simp only at e2 hh;simp[World.cell?,hh,e2]
     .have hk:=ay hk;simp only[SV.v,Value.ownBlock,aU]at hk;subst hk;exact⟨_,z1,rfl⟩
  .rename_i h0;refine⟨_,Dd,h2,g2,l2.trans l1,OpOk.pure fun j a w _ Ao _ A3 _=> ?_⟩;obtain⟨s,hs,Ai,Ia,hz⟩:=A3.tb id (by simp) r hr;obtain⟨p,hp,Be⟩:=cell hs Ia (Ao x Or _ hx);cases p with
   |none=>exact⟨_,rfl,Be⟩
   |some q=>exact ak (by rw[hp.1];rfl) h0
 .exact h1.elim
def vY(hT:∀t i,(t,i)∈cx.ty->TIok P t i)(Ab:o.op=.store t x y){id KP fo:Nat}(hx:vw.ev x=ZA (.one (.ep id 1 e 0))){r q:RowOb}(hy:vw.ev y=ZA (.one (.ep KP q.ks.length (.p 0) fo)))(hi:aj t cx.ty=ZA i)(Jr:i.size=1)(hr:vw.tabw id=ZA r)(Bx:r.ks=ZD::ks)(hq:vw.sw KP=ZA q)(AJ:q.own=ZB)(Gi:q.ks.drop fo=ks)(h:(AB (Fo e r.l) (fun ok kw=>if ok then AB (Fo (.p 0) q.l) (fun ok kw=>if ok then k {val:=.one .undef,rr:=[KP,id],re:=.tset KP {q with own:=ZC} id {r with l:=.lput r.l e (.j (.tt ZB) (Ex q.l (.p 0) fo ks))}} kw else .stuck 271) kw else .stuck 272) kw).holds sp G ρ I)(hg:Good sp cx.sm ρ kw):Sound P sp ρ G I base cx vw o k kw:=by
 obtain⟨Bn,h1,g1,_,l1⟩:=aC _ _ _ h hg;rw[rQ]at h1;have ht:=hT _ _ (af hi);split at h1
 .rename_i hb;simp only[ne,ax]at hb;obtain⟨Dd,h2,g2,_,l2⟩:=aC _ _ _ h1 g1;rw[rQ]at h2;split at h2
  .rename_i JO;simp only[ne,ax,E.I]at JO;refine⟨_,Dd,h2,g2,l2.trans l1,fun j a w PV Ao A9 BS A3 Du K Q hK=> ?_⟩;obtain⟨st,Em,Ai,Ia,hz⟩:=A3.tb id (by simp) r hr;obtain⟨s,hs,Kc⟩:=A3.sl KP (by simp) q hq;obtain⟨g,ps,ty,a1,a2,a3,a4⟩:=Ia;obtain⟨pa,Tj,he⟩:=oV Em (Ao x Or _ hx);rw[a1]at Tj;cases Tj;rw[vD,Nat.mul_one,ZP]at he;obtain⟨pb,Qm,hv⟩:=oV hs (Ao y Or _ hy);have Ql:=Kc.own AJ;obtain⟨kb,Fg,cur,b1,b2,b3,b4⟩:∃kb Fg cur,s.v=.slice (ZA ⟨kb,0,ZD⟩) s.n Fg/\w.heap[kb]? =ZA (.cells cur q.ty (0,0))/\cur.toList.take (s.n*q.ks.length)=flat q.ks (q.l.R ρ)/\pb=⟨kb,0,ZD⟩:=by
    rcases Ql.2 with⟨c1,c2⟩|⟨kb,Fg,cur,c1,_,c2,_,_,_,c3⟩
    .simp only[SV.v,Qm]at c1;cases c1
    .refine⟨kb,Fg,cur,c1,c2,c3,?_⟩;simp only[SV.v,Qm,Value.slice.injEq,aU]at c1;exact c1.1
   subst b4;have hvv:a.eval y=.pointer (ZA ⟨kb,fo,ZD⟩):=by rw[hv,vD];simp[E.I]
   have h0:0<(q.l.R ρ).length:=by have hh:=JO.2;exact Int.ofNat_lt.1 (Ae hh)
   have Gj:=Az h0;obtain⟨row,EZ⟩:∃row,row=(q.l.R ρ)[0]:=⟨_,rfl⟩
   rw[<-EZ]at Gj;have CD:=Kc.rows.row row (ew Gj);have Gy:=nS fo CD;rw[Gi]at Gy;have hL:=an3 (ρ:=ρ) (e:=.p 0) Gj ks fo Gy;have Ap:(e.I ρ).toNat<ps.length:=Fn;have By:=aaZ a2 (Az Ap);have Js:w.frozen? ⟨g,(e.I ρ).toNat,ZD⟩=ZC:=by simp[World.frozen?,a2]
   have Kf:=heap_setCell_same w g (e.I ρ).toNat (ps.map Value.pointer).toArray ty (.pointer (ZA ⟨kb,fo,ZD⟩)) a2;have Nq:((ps.map Value.pointer).toArray.setIfInBounds (e.I ρ).toNat (.pointer (ZA ⟨kb,fo,ZD⟩)))=((ps.set (e.I ρ).toNat (ZA ⟨kb,fo,ZD⟩)).map Value.pointer).toArray:=by simp[List.map_set]
   rw[Nq]at Kf;have hR:(E.lput r.l e (.j (.tt ZB) (Ex q.l (.p 0) fo ks))).R ρ=(r.l.R ρ).set (e.I ρ).toNat (1::row.drop fo):=by simp only[E.R,E.L,hL,E.B];rfl
   have FR:aq (ZD::ks) (1::row.drop fo)=ZB:=by simp[aq,CV,Gy]
   have hst2:st.v.ownBlock=ZA g:=by simp[SV.v,a1,Value.ownBlock]
   refine rV (w':=w.setCell ⟨g,(e.I ρ).toNat,ZD⟩ (.pointer (ZA ⟨kb,fo,ZD⟩))) ?_ (hK _ (j.addz [(kb,.cells cur q.ty (0,0))]) _ rfl ⟨s,st,kb,.cells cur q.ty (0,0),hs,Em,Kc.shut.row (Vw.sw_some hq).2,HdOk.row ⟨Ai.own,⟨fun z Ju=> ?_,?_⟩,Ai.c,g,_,a1,?_,Kf,?_⟩ (by rw[show r.kd=.tab from(Vw.tabw_some hr).2];rfl),by rw[b1];rfl,b2,rfl,?_,rfl,⟨g,ps.set (e.I ρ).toNat (ZA ⟨kb,fo,ZD⟩),ty,a1,Kf,?_,fun m E4 p hm hp=> ?_⟩,fun e=>by rw[show q.kd=.sl from(Vw.sw_some hq).2]at e;cases e⟩)
   .have hst1:(storeCells ⟨g,(e.I ρ).toNat,ZD⟩ [Value.pointer (ZA ⟨kb,fo,ZD⟩)] 0).run P w=.ok () (w.setCell ⟨g,(e.I ρ).toNat,ZD⟩ (.pointer (ZA ⟨kb,fo,ZD⟩))):=by
     have H9:(Value.pointer (ZA ⟨kb,fo,ZD⟩)).oneCell'=ZB:=rfl;simp only[storeCells,bw,ZP,ZH,run_store P w _ _ _ H9,By,Js,Result.andThen_ok,Bool.false_eq_true,dz,Sem.run_pure]
    have CJ:(Value.pointer (ZA ⟨kb,fo,ZD⟩)).cells = #[Value.pointer (ZA ⟨kb,fo,ZD⟩)]:=rfl;simp[execOp,Ab,he,hvv,Instr.storeAt,ZR,ZH,storeVar,ht.size,Jr,CJ,hst1]
   .have Ju:z∈(E.lput r.l e (.j (.tt ZB) (Ex q.l (.p 0) fo ks))).R ρ:=Ju;rw[hR]at Ju;rcases List.mem_or_eq_of_mem_set Ju with h'|h'
    .exact Ai.rows.row z h'
    .show aq r.ks z=ZB;rw[Bx,h'];exact FR
   .show((E.lput r.l e (.j (.tt ZB) (Ex q.l (.p 0) fo ks))).R ρ).length<=maxLen;rw[hR,YU];exact Ai.rows.len
   .obtain⟨g',o',c1,c2,_⟩:=Ai.at';rw[a1]at c1;cases c1;exact c2
   .show FZ ρ st {r with l:=_} _;unfold FZ;simp only[(Vw.tabw_some hr).2];exact⟨_,_,rfl⟩
   .rw[hst2];exact⟨rfl,rfl,rfl,by simp[World.setCell],fun k _ hk=>heap_setCell_other w _ k _ (fun e=>hk (by rw[e]))⟩
   .show _=((E.lput r.l e (.j (.tt ZB) (Ex q.l (.p 0) fo ks))).R ρ).length;rw[hR,YU,YU,a3]
   .have hm:((E.lput r.l e (.j (.tt ZB) (Ex q.l (.p 0) fo ks))).R ρ)[m]? =ZA E4:=hm;have hzk:(j.addz [(kb,.cells cur q.ty (0,0))]).g.z kb=ZA (.cells cur q.ty (0,0)):=by simp[J.addz,J.setz,Gh.setz]
    have H8:∀k o,B6 o=ZB->j.g.z k=ZA o->(j.addz [(kb,.cells cur q.ty (0,0))]).g.z k=ZA o:=fun k o _ hko=>by
     by_cases Fk:k=kb
     .have:=hz k o hko;rw[Fk,b2]at this;cases this;rw[Fk];exact hzk
     .simp[J.addz,J.setz,Gh.setz,Fk,hko]
    rw[hR]at hm;show PtIs _ r.ks E4 p;by_cases OW:(e.I ρ).toNat=m
    .rw[<-OW,List.getElem?_set_self Fn]at hm;rw[<-OW,List.getElem?_set_self Ap]at hp;cases hm;cases hp;refine⟨rfl,⟨kb,fo,rfl⟩,cur,q.ty,hzk,fun c v hc=> ?_⟩;rw[Bx]at hc;have hc:(Ax ks (row.drop fo))[c]? =ZA v:=hc;have hd:=qs fo c CD;rw[Gi]at hd;rw[<-hd]at hc;have E6:(flat q.ks (q.l.R ρ))[fo+c]? =ZA v:=by
      obtain⟨L',Ta⟩:∃L',q.l.R ρ=row::L':=by
       cases hqq:q.l.R ρ with
       |nil=>rw[hqq]at h0;simp at h0
       |cons z L'=>rw[hqq]at Gj;simp at Gj;exact⟨L',by rw[Gj]⟩
      rw[Ta,cr,AW (bX.1 hc).1];exact hc
     rw[<-b3,List.getElem?_take]at E6;split at E6
     .simpa using E6
     .cases E6
    .rw[nE OW]at hm hp;exact(a4 m E4 p hm hp).mono H8
  .exact h2.elim
 .exact h1.elim
def yX(hT:∀t i,(t,i)∈cx.ty->TIok P t i)(Ab:o.op=.store t x y){id off:Nat}{r:RowOb}(hx:vw.ev x=ZA (.one (.ep id r.ks.length (.p 0) off))){v:V}(hy:vw.ev y=ZA v)(hi:aj t cx.ty=ZA i)(hr:vw.sw id=ZA r)(Kd:r.own=ZB)(hf:v.flat=ZB)(hn:v.cells.length=i.size)(Nm:off+i.size<=r.ks.length){row E4:E}(hl:r.l=.lq .ln row)(hrg:Fx kw.vk v.cells kw.vk 0=ZB)(hsp:zx off r.ks row v.cells=ZA E4)(h:(k {val:=.one .undef,rr:=[id],re:=.set id {r with l:=.lq .ln E4}} kw).holds sp G ρ I)(hg:Good sp cx.sm ρ kw):Sound P sp ρ G I base cx vw o k kw:=by
 have ht:=hT _ _ (af hi);obtain⟨l',Ti,Nn⟩:=uG (ρ:=ρ) off v.cells r.ks row E4 (.lq .ln row) [] (rngs_ok _ kw.vk 0 rfl hrg) hsp (by simp[E.R]);simp only[List.length_nil,be,List.nil_append]at Ti Nn;have hR':(E.lq .ln E4).R ρ=l'.R ρ:=by rw[Nn];simp[E.R]
 refine⟨_,kw,h,hg,.refl _,fun j a w _ Ao A9 BS A3 Du K Q hK=> ?_⟩;obtain⟨s,hs,Ai⟩:=A3.sl id (by simp) r hr;obtain⟨p,hp,he⟩:=oV hs (Ao x Or _ hx);have hd:=V.cells_ok (Ao y Or v hy) hf;have AJ:=Ai.own Kd;obtain⟨g,rfl,IF⟩:=ab2 AJ hp;rw[IF]at AJ;have AH:=Ai.rows;rw[hl]at AJ AH;obtain⟨w',h2,h3,h4,h5,h6⟩:=jM (P:=P) hg.vk (r.ks.drop off) v.cells (.lq .ln row) l' off 0 _ w ((⟨g,0,ZD⟩:Addr).add (((E.p 0).I ρ).toNat*r.ks.length+off)) Ti hd r.ks (fun m=>by rw[List.getElem?_drop]) AH (by simp[E.I,E.R]) AJ
  (fun m=>by rw[bC,bw];congr 1;omega)
 have BC:(a.eval y).cells.size=i.size:=by have:=aP hd;rw[Array.length_toList,hn]at this;exact this
 have Tf:s.n=1:=by rw[Ai.n,hl];simp[E.R]
 refine rV (w':=w') ?_ (hK _ j w' rfl ⟨rfl,s,hs,?_,RowOk.mk_own (r:={r with l:=.lq .ln E4}) (Vw.sw_some hr).2 (by rw[Tf];simp[E.R]) (by rw[hR'];exact h5) Ai.pos (by rw[IF];simp only;rw[hR'];exact h3),fun e=>by rw[show r.kd=.sl from(Vw.sw_some hr).2]at e;cases e⟩)
 .simp[execOp,Ab,he,Instr.storeAt,ZR,ZH,storeVar,ht.size,BC,h2]
 .rw[IF];exact h4
def af2(hT:∀t i,(t,i)∈cx.ty->TIok P t i){c:Call}(Ab:o.op=.call c)(hc:c.callee=.builtin .clear){b off sz l0 l1:Nat}{mx:E}(hl:DM vw.ev c.args.toList=ZA [.one (.aw b off n sz (.p l0) (.p l1) mx)])(Ci:c.argTypes.toList=[t])(hi:aj t cx.ty=ZA i){et:Nat}(ha:i.sle=ZA et){ie:TI}(AZ:aj et cx.ty=ZA ie)(BC:ie.size=sz)(Ap:l0<l1)(I8:(mx.I ρ).toNat≠l0)(El:((YK (l1-l0) ie.zero).flatten).all C.solid=ZB)(h:(k {val:=.tup [],wr:=eQ b (off+l0*sz) ((YK (l1-l0) ie.zero).flatten)} kw).holds sp G ρ I)(hg:Good sp cx.sm ρ kw):Sound P sp ρ G I base cx vw o k kw:=by
 refine⟨_,kw,h,hg,.refl _,fun j a w _ Ao A9 BS _ _ K Q hK=> ?_⟩;obtain⟨h1,h2⟩:=iF (j:=j) (a:=a) hl (fun x hx=>Ao x Xn);obtain⟨u,Tm,Qw⟩:∃u,c.args.toList.map a.eval=[u]/\(V.one (.aw b off n sz (.p l0) (.p l1) mx)).den ρ j=ZA u:=by
  match hm:c.args.toList.map a.eval,h2 with
  |[u],_=>exact⟨u,rfl,h1 0 _ u rfl (by rw[hm];rfl)⟩
 have BD:c.args.map a.eval = #[u]:=by rw[<-Array.toArray_toList (xs:=c.args.map a.eval),Array.toList_map,Tm]
 have CU:c.argTypes = #[t]:=Xs;have hu:=(hT _ _ (af hi)).sle et ha;obtain⟨z,hz,Hp⟩:=(hT _ _ (af AZ)).zero;obtain⟨Cv,z',Ct,B5,_,Ju,HI,_⟩:=(hT _ _ (af AZ)).info;simp only[V.den,C.den,Av]at Qw;obtain⟨kk,hk,rfl⟩:=Qw;have Tp:z.cells.size=sz:=by
  have e1:=aP (Hp ρ j);have e2:(zeroValue et).run P w=.ok z' w:=by simp[zeroValue,typeInfo,Ct,Ju,ZH]
  rw[hz w]at e2;cases e2;rw[Array.length_toList]at HI;rw[HI,BC]
 have H0:Ad ρ j ((YK (l1-l0) ie.zero).flatten)=ZA (Builtin.zeroCells z.cells (l1-l0)).toList:=by
  have e1:(Builtin.zeroCells z.cells (l1-l0)).toList=(YK (l1-l0) z.cells.toList).flatten:=pp z.cells (l1-l0);rw[e1];generalize l1-l0=m
  induction m with
  |zero=>rfl
  |succ m ih=>simp only[List.replicate_succ,List.flatten_cons];exact eU (Hp ρ j) ih
 obtain⟨w',Nw,Kf⟩:=dD (P:=P) hk ⟨kk,off+l0*sz,ZD⟩ ((YK (l1-l0) ie.zero).flatten) (off+l0*sz) 0 _ w (fun m=>by rw[be,bw]) H0 El BS;refine cf (w':=w') (v:=.tuple #[]) ?_ (hK _ j w' rfl ⟨rfl,w,.refl w,Nw⟩);have HZ:((⟨ZA ⟨kk,off,ZD⟩,n,n,[]⟩:SV).cut sz ((E.p (l0:Int)).I ρ).toNat ((E.p (l1:Int)).I ρ).toNat (mx.I ρ).toNat).v=.slice (ZA ⟨kk,off+l0*sz,ZD⟩) (l1-l0) ((mx.I ρ).toNat-l0):=by have e5:((E.p (l0:Int)).I ρ).toNat=l0:=cy l0;have e6:((E.p (l1:Int)).I ρ).toNat=l1:=cy l1;rw[e5,e6];simp only[SV.cut,SV.v];rw[aa I8];simp only[Option.map_some,bw]
 rw[HZ]at BD;obtain⟨m,hm⟩:∃m,l1-l0=m+1:=⟨l1-l0-1,by omega⟩
 rw[hm]at BD Kf;simp only[execOp,Ab,resolve,hc,BD,CU,ZH,Sem.run_pure,Result.andThen_ok,invoke,builtin];simp[Builtin.clear_,run_underlying hu,hz,Kf,ZH]
def opT(cx:Cx)(vw:Vw)(op:Op)(kw:Kw)(k:Eff->Kw->Tr):Option Tr:=match op with
 |.alloc t=>match aj t cx.ty with
   |some i=>if zV cx t then(match Dc i.zero with
    |some ks=>match D3 kw.vk ks i.zero with
      |some r=>if decide (0<ks.length)then ZA (k {val:=.one (.ep vw.nid ks.length (.p 0) 0),re:=.mk [⟨ks,t,.lq .ln r,ZB,.sl⟩]} kw)else ZD
      |none=>ZD
    | none=>ZD)
     else if aiy cx t then(match i.zero with
      |.int kd _::_=>if i.zero.all (C.isZk kd)&&decide (i.zero.length<=65536)then ZA (k {val:=.one (.ep vw.nid 1 (.p 0) 0),re:=.mk [⟨[ZA kd],t,.lrep (.p i.zero.length) (.cons (.p 0) .nil),ZB,.sl⟩]} kw)else ZD
      |_=>ZD)
     else match apR cx with
      |some (t',ks,st)=>if ZI t t'&&(i.zero.all C.isNilp&&decide (i.zero.length<=65536))then ZA (k {val:=.one (.ep vw.nid 1 (.p 0) 0),re:=.mk [⟨ZD::ks,st,.lrep (.p i.zero.length) (tI (ZD::ks)),ZB,.tab⟩]} kw)else ZD
      |none=>ZD
   |none=>ZD
 |.box t x=>match vw.ev x with
   |some v=>if zV cx t&&v.flat then(match Dc v.cells with
    |some ks=>match D3 kw.vk ks v.cells with
      |some r=>if decide (0<ks.length)then ZA (k {val:=.one (.ep vw.nid ks.length (.p 0) 0),re:=.mk [⟨ks,t,.lq .ln r,ZB,.sl⟩]} kw)else ZD
      |none=>ZD
    |none=>ZD)else ZD
   |none=>ZD
 |.indexAddr t x y=>match vw.ev x,vw.ev y,aj t cx.ty with
   |some (.one (.ep id Bj (.p z) off)),ZA (.one (.int _ e)),ZA i=>match i.arr with
     |some (n,et)=>match aj et cx.ty with
       |some ie=>if((vw.tabw id).isSome||aiy cx t)&&ZI Bj 1&&(ZI off 0&&(fy z 0&&ZI ie.size 1))then ZA (AB (Jv e n) (fun ok kw=>if ok then k {val:=.one (.ep id 1 e 0)} kw else .panic) kw)else ZD
       |none=>ZD
     |_=>ZD
   |_,_,_=>ZD
 |.load t x=>match vw.ev x,aj t cx.ty with
   |some (.one (.ep id Bj e off)),ZA i=>match vw.tabw id with
     |some r=>match r.ks with
       |none::ks=>if ZI Bj 1&&(ZI off 0&&(!i.agg&&decide (0<ks.length)))then
        ZA (AB (Fo e r.l) (fun ok kw=>if ok then AB (qK (Ga r.l e) (GO r.l e) 0) (fun b kw=>if b then k {val:=.one (.ep vw.nid ks.length (.p 0) 0),rr:=[id],re:=.peek ⟨ks,r.ty,.lq .ln (Ex (Ga r.l e) (GO r.l e) 1 ks),ZC,.sl⟩} kw else k {val:=.one .np,rr:=[id]} kw) kw else .stuck 270) kw)else ZD
       |_=>ZD
     |none=>ZD
   |_,_=>ZD
 |.store t x y=>match vw.ev x,vw.ev y,aj t cx.ty with
   |some (.one (.ep id Bj e off)),ZA v,ZA i=>match vw.tabw id with
     |some r=>match v,r.ks with
       |.one (.ep KP sz (.p z) fo),ZD::ks=>match vw.sw KP with
         |some q=>if(ZI Bj 1&&(ZI off 0&&(fy z 0&&(ZI i.size 1&&ZI sz q.ks.length))))&&(q.own&&bZ (q.ks.drop fo) ks)then
          ZA (AB (Fo e r.l) (fun ok kw=>if ok then AB (Fo (.p 0) q.l) (fun ok kw=>if ok then k {val:=.one .undef,rr:=[KP,id],re:=.tset KP {q with own:=ZC} id {r with l:=.lput r.l e (.j (.tt ZB) (Ex q.l (.p 0) fo ks))}} kw else .stuck 271) kw else .stuck 272) kw)else ZD
         |none=>ZD
       |_,_=>ZD
     |none=>match e,vw.sw id with
       |.p z,ZA r=>match r.l with
         |.lq .ln row=>if(zV cx r.ty&&(fy z 0&&(ZI Bj r.ks.length&&r.own)))&&(v.flat&&(ZI v.cells.length i.size&&(decide (off+i.size<=Bj)&&Fx kw.vk v.cells kw.vk 0)))then
          (match zx off r.ks row v.cells with
          |some E4=>ZA (k {val:=.one .undef,rr:=[id],re:=.set id {r with l:=.lq .ln E4}} kw)
          |none=>ZD)else ZD
         |_=>ZD
       |_,_=>ZD
   |_,_,_=>ZD
 |.call c=>match c.callee with
   |.builtin .clear=>match DM vw.ev c.args.toList,c.argTypes.toList with
     |some [.one (.aw b off n sz (.p (.ofNat l0)) (.p (.ofNat l1)) (.p (.ofNat l2)))],[t]=>match aj t cx.ty with
       |some i=>match i.sle with
         |some et=>match aj et cx.ty with
           |some ie=>if ZI ie.size sz&&(decide (l0<l1)&&(decide (l0<l2)&&((YK (l1-l0) ie.zero).flatten).all C.solid))then
            ZA (k {val:=.tup [],wr:=eQ b (off+l0*sz) ((YK (l1-l0) ie.zero).flatten)} kw)else ZD
           |none=>ZD
         |none=>ZD
       |none=>ZD
     |_,_=>ZD
   |_=>ZD
 |_=>ZD
def atj(hT:∀t i,(t,i)∈cx.ty->TIok P t i){tr:Tr}(ht:opT cx vw o.op kw k=ZA tr)(h:tr.holds sp G ρ I)(hg:Good sp cx.sm ρ kw):Sound P sp ρ G I base cx vw o k kw:=by
 cases Ab:o.op<;>rw[Ab]at ht<;>simp only[opT]at ht
 case alloc t=>
  split at ht
  .rename_i i hi;split at ht
   .split at ht
    .rename_i ks hk;split at ht
     .rename_i r hr;split at ht
      next hp=>cases ht;exact wv hT Ab hi hr (Ae hp) h hg
      .exact Xo
     .exact Xo
    .exact Xo
   .split at ht
    .split at ht
     .rename_i kd _ _ _;split at ht
      next hp=>simp only[ne,ax]at hp;cases ht;exact ww hT Ab hi hp.1 hp.2 h hg
      .exact Xo
     .exact Xo
    .split at ht
     .rename_i t' ks st _;split at ht
      next hp=>simp only[ne,ax]at hp;cases ht;exact wu hT Ab hi ks st hp.2.1 hp.2.2 h hg
      .exact Xo
     .exact Xo
  .exact Xo
 case box t x=>
  split at ht
  .rename_i v hv;split at ht
   .rename_i hf;rw[ne]at hf;split at ht
    .rename_i ks hk;split at ht
     .rename_i r hr;split at ht
      next hp=>cases ht;exact adv Ab hv hf.2 hr (Ae hp) h hg
      .exact Xo
     .exact Xo
    .exact Xo
   .exact Xo
  .exact Xo
 case indexAddr t x y=>
  split at ht
  .rename_i id Bj z off k0 e i hx hy hi;split at ht
   .rename_i n et ha;split at ht
    .rename_i ie AZ;split at ht
     next hp=>simp only[ne]at hp;obtain⟨⟨_,p1⟩,p2,p3,p4⟩:=hp;have p1:=Ah p1;have p2:=Ah p2;have p3:=cF p3;subst p1 p2 p3;cases ht;exact vZ hT Ab hx hy hi ha AZ (Ah p4) h hg
     .exact Xo
    .exact Xo
   .exact Xo
  .exact Xo
 case load t x=>
  split at ht
  .rename_i id Bj e off i hx hi;split at ht
   .rename_i r hr;split at ht
    .rename_i ks Bx;split at ht
     next hp=>simp only[ne,ax,Bool.not_eq_true']at hp;obtain⟨p1,p2,p3,p4⟩:=hp;have p1:=Ah p1;have p2:=Ah p2;subst p1 p2;cases ht;exact yW hT Ab hx hi p3 hr Bx p4 h hg
     .exact Xo
    .exact Xo
   .exact Xo
  .exact Xo
 case store t x y=>
  split at ht
  .rename_i id Bj e off v i hx hy hi;split at ht
   .rename_i r hr;split at ht
    .rename_i KP sz z fo ks Bx;split at ht
     .rename_i q hq;split at ht
      next hp=>simp only[ne]at hp;obtain⟨⟨p1,p2,p3,p4,p5⟩,p6,p7⟩:=hp;have p1:=Ah p1;have p2:=Ah p2;have p3:=cF p3;have p5:=Ah p5;subst p1 p2 p3 p5;cases ht;exact vY hT Ab hx hy hi (Ah p4) hr Bx hq p6 (bQ p7) h hg
      .exact Xo
     .exact Xo
    .exact Xo
   .split at ht
    .rename_i z r hr;split at ht
     .rename_i row hl;split at ht
      .rename_i hp;simp only[ne,ax]at hp;obtain⟨⟨p1,p2,p3,p4⟩,p5,p6,p7,p8⟩:=hp;have p2:=cF p2;have p3:=Ah p3;subst p2 p3;split at ht
       next E4 hsp=>cases ht;exact yX hT Ab hx hy hi hr p4 p5 (Ah p6) p7 hl p8 hsp h hg
       .exact Xo
      .exact Xo
     .exact Xo
    .exact Xo
  .exact Xo
 case call c=>
  split at ht
  .rename_i hc;split at ht
   .rename_i b off n sz l0 l1 l2 t hl Ci;split at ht
    .rename_i i hi;split at ht
     .rename_i et ha;split at ht
      .rename_i ie AZ;split at ht
       next hp=>simp only[ne,ax]at hp;obtain⟨p1,p2,p3,p4⟩:=hp;cases ht;exact af2 hT Ab hc hl Ci hi ha AZ (Ah p1) p2 (by show(Int.ofNat l2).toNat≠l0;simp;omega) p4 h hg
       .exact Xo
      .exact Xo
     .exact Xo
    .exact Xo
   .exact Xo
  .exact Xo
 all_goals cases ht
def Ku(cx:Cx)(vw:Vw)(op:Op)(kw:Kw)(k:Eff->Kw->Tr):Tr:=match opT cx vw op kw k with
 |some t=>t
 |none=>NV cx vw op kw k
def aqB(hT:∀t i,(t,i)∈cx.ty->TIok P t i)(hS:∀s∈cx.sm,SmOk P sp s)(AO:∀s∈cx.sm,∀s'∈cx.sm,s.key=s'.key->s=s')(h:(Ku cx vw o.op kw k).holds sp G ρ I)(hg:Good sp cx.sm ρ kw):Sound P sp ρ G I base cx vw o k kw:=by
 unfold Ku at h;split at h
 next t ht=>exact atj hT ht h hg
 .exact aqA hT hS AO h hg
end
end Go.Proofs.YtgolejfhoefeaabGreatDoor
