import Derived.Test.YtgolejfhoefeaaaGreatDoorAbZ
import Derived.Orders
import Derived.RangeFuncRecord
import Derived.OrdersIn
import Derived.LoopNIn
import Derived.RangeFuncLeaves
set_option maxRecDepth 100000
set_option maxHeartbeats 8000000
set_option linter.defProp false
set_option linter.unusedVariables false
set_option linter.unusedSimpArgs false
namespace Go.Proofs.YtgolejfhoefeaaaGreatDoor
open Option renaming some->ZA,none->ZE,map_some->YR
open Bool renaming true->ZB,false->ZC,not_eq_true'->ZO
open Sem renaming run_bind->ZI
open Nat renaming le_refl->ZK,add_zero->ZR,add_assoc->ZU
open Option.some renaming inj->ZN
open List renaming length_cons->YQ,mem_cons->YS,foldl_cons->YV,mem_append_right->ZV,mem_append_left->ZZ
open Go.Region renaming binds->ZX
open Go.RowKit
variable {w w':World}{a:Act}{s s':SV}{r q:RowOb}{j:J}{o:Oper}{k nid b i old t:Nat}{α:Type}{ops:Array Oper}{x:Operand}{v:Value}{vs:List Value}{z:List (Nat×Obj)}{eff:Eff}{y:Lp}
structure Fz where
 tmp:Nat->V
 box:Nat->Option (List C×Nat)
 row:Nat->Option (Option RowOb)
 lp:Nat->Option Lp
def Fz.ext'{F F':Fz}(h1:∀t,F.tmp t=F'.tmp t)(h2:∀b,F.box b=F'.box b)(h3:∀b,F.row b=F'.row b)(h4:∀b,F.lp b=F'.lp b):F=F':=by cases F;cases F';simp only[Fz.mk.injEq];exact⟨funext h1,funext h2,funext h3,funext h4⟩
def Fz.put(F:Fz)(dst:Option Nat)(v:V):Fz:={F with tmp:=fun t=>if dst=ZA t then v else F.tmp t}
def Fz.new(F:Fz)(nid:Nat)(x:List C×Nat):Fz:={F with box:=fun b=>if b=nid then ZA x else F.box b}
def Fz.wr(F:Fz)(p:Nat×Nat×C):Fz:={F with box:=fun b=>if b=p.1 then(F.box b).map (fun x=>(x.1.set p.2.1 p.2.2,x.2))else F.box b}
def Fz.wrs(F:Fz)(l:List (Nat×Nat×C)):Fz:=l.foldl Fz.wr F
def Fz.rw1(F:Fz)(p:Nat×Option RowOb):Fz:={F with row:=fun b=>if b=p.1 then ZA p.2 else F.row b}
def Fz.rws(F:Fz)(l:List (Nat×Option RowOb)):Fz:=l.foldl Fz.rw1 F
def Fz.app(F:Fz)(dst:Option Nat)(nid:Nat)(eff:Eff):Fz:=
 ((match eff.al with|some x=>F.new nid x|none=>F.wrs eff.wr).rws (eff.re.rs nid)).put dst eff.val
def PV(F:Fz)(n:Nat):Operand->Option V
 |.tmp t=>if t<n then(match F.tmp t with|.top=>ZE|v=>ZA v)else ZE
 |.const v=>ofValue v
 |.global _=>ZE
 |.func f=>ZA (.one (.fn f))
def C3(F:Fz)(b o:Nat):Option C:=(F.box b).bind fun x=>x.1[o]?
def Qf(F:Fz)(id:Nat):Option RowOb:=(F.row id).bind fun x=>x
structure Rf where
 ps:Array Tmp
 assign:Code
 body:Code
 tmps:Array Value
 l:Nat
structure Wb where
 w:World
 M:List Nat
 top:Bool
 rf:Option Rf
 hw:World->Prop
 hh:∀w',Ext w w'->hw w'
abbrev Wb.heap(b:Wb):Array Obj:=b.w.heap
def Wb.ds(b:Wb):List Deferred:=if b.top then b.M.map fun D=>{target:=.collected D,args:= #[]}else[]
def LS.st:LS->LoopState
 |.ready=>.ready
 |.busy=>.busy
 |.done=>.done
def Sig.code:Sig->Code
 |.normal=>.skip
 |.exit id=>.exit id
 |.ret=>.ret
structure LoopIs(rf:Rf)(y:Lp)(o:Loop):Prop where
 st:o.state=y.st.st
 pend:o.pending=y.pend.map Sig.code
 ps:o.params=rf.ps
 assign:o.assign=rf.assign
 body:o.body=rf.body
 tmps:o.tmps=rf.tmps
structure Frz(U:Env)(W0:Wb)(F:Fz)(j:J)(w:World):Prop where
 at':∀k o,j.g.z k=ZA o->w.heap[k]? =ZA o/\(Cg o=ZC->W0.heap.size<=k)
 box:∀k o b,j.g.z k=ZA o->j.b b≠ZA k
 row:∀k o id r s,j.g.z k=ZA o->F.row id=ZA (ZA r)->j.s id=ZA s->(r.own=ZB\/Cg o=ZC)->s.blk r.own≠ZA k
 md:∀D∈W0.M,j.g.z D=ZA (.deferred (ZA []))
 nd:W0.M.Nodup
 lp:∀id y,F.lp id=ZA y->∃rf o,W0.rf=ZA rf/\j.g.y id=ZA rf.l/\j.g.z rf.l=ZA (.loop o)/\LoopIs rf y o
 nol:∀id,F.row id=ZE->F.lp id=ZE->j.g.y id=ZE
 ev:∀id r s,F.row id=ZA (ZA r)->j.s id=ZA s->Zin j s
 tb:∀id r s,F.row id=ZA (ZA r)->r.kd=.tab->j.s id=ZA s->TbAt U j w s r
def Frz.lt{U:Env}{W0:Wb}{F:Fz}(h:Frz U W0 F j w){o:Obj}(hz:j.g.z k=ZA o):k<w.heap.size:=(ig.1 (h.at' k o hz).1).1
def Frz.step{U:Env}{W0:Wb}{F F':Fz}{j':J}(h:Frz U W0 F j w)(hg:j'.g=j.g)(hl:F'.lp=F.lp)(hn:∀id,F'.row id=ZE->F.row id=ZE)
  (hh:∀k o,j.g.z k=ZA o->w'.heap[k]? =w.heap[k]?) (hb:∀b k,j'.b b=ZA k->j.b b=ZA k\/w.heap.size<=k)
  (hr:∀id r s,F'.row id=ZA (ZA r)->j'.s id=ZA s->(∃JR r0 s0,F.row JR=ZA (ZA r0)/\j.s JR=ZA s0/\(r.own=ZB->r0.own=ZB)/\∀k,s.blk r.own=ZA k->s0.blk r0.own=ZA k\/w.heap.size<=k)\/(∀k,s.blk r.own=ZA k->w.heap.size<=k)) (hv:∀id r s,F'.row id=ZA (ZA r)->j'.s id=ZA s->Zin j s) (ht:∀id r s,F'.row id=ZA (ZA r)->r.kd=.tab->j'.s id=ZA s->TbAt U j' w' s r):Frz U W0 F' j' w' where
 at' k o hz:=by rw[hg]at hz;rw[hh k o hz];exact h.at' k o hz
 box k o b hz e:=by
  rw[hg]at hz;rcases hb b k e with h1|h1
  .exact h.box k o b hz h1
  .have:=h.lt hz;omega
 row k o id r s hz hF hs hc e:=by
  rw[hg]at hz;have:=h.lt hz;rcases hr id r s hF hs with⟨JR,r0,s0,h1,h2,h3,h4⟩|h1
  .rcases h4 k e with h4|h4
   .exact h.row k o JR r0 s0 hz h1 h2 (hc.imp h3 _root_.id) h4
   .exact Fn
  .have:=h1 k e;omega
 md D hD:=by rw[hg];exact h.md D hD
 nd:=h.nd
 lp id y hy:=by rw[hg];rw[hl]at hy;exact h.lp id y hy
 nol id hF hy:=by rw[hg];rw[hl]at hy;exact h.nol id (hn id hF) hy
 ev id r s hF hs:=fun p hp=>by rw[hg];exact hv id r s hF hs p hp
 tb:=ht
structure Rel(U:Env)(n:Nat)(X:List Value)(W0:Wb)(fb:Nat->Option (List C))(F:Fz)(j:J)(a:Act)(w:World):Prop where
 defers:a.defers=W0.ds
 size:a.tmps.size=n
 tmp:∀t,t<n->∃v,a.tmps[t]? =ZA v/\(F.tmp t=.top\/(F.tmp t).den U j=ZA v)
 sav:∀(i:Nat) v,X[i]? =ZA v->F.tmp (n+i)=.top\/(F.tmp (n+i)).den U j=ZA v
 box:∀b cs ty,F.box b=ZA (cs,ty)->∃k vs,j.b b=ZA k/\W0.heap.size<=k/\Af U j cs=ZA vs/\w.heap[k]? =ZA (.cells vs.toArray ty (0,0))
 nob:∀b,F.box b=ZE->j.b b=ZE
 inj:∀b b' k,j.b b=ZA k->j.b b'=ZA k->b=b'
 row:∀b r,F.row b=ZA (ZA r)->∃s,j.s b=ZA s/\RowOk U W0.heap.size w s r
 nor:∀b,F.row b=ZE->j.s b=ZE
 sep:∀b b' k r s,j.b b=ZA k->F.row b'=ZA (ZA r)->j.s b'=ZA s->s.blk r.own≠ZA k
 rsep:∀b b' r r' s s' k,F.row b=ZA (ZA r)->r.own=ZB->F.row b'=ZA (ZA r')->j.s b=ZA s->j.s b'=ZA s'->s.blk r.own=ZA k->s'.blk r'.own=ZA k->b=b'
 fb:∀b cs,fb b=ZA cs->∃k vs,j.f b=ZA k/\k<W0.heap.size/\Af U j cs=ZA vs/\∀o v,vs[o]? =ZA v->jM cs o=ZB->w.cell? ⟨k,o,ZE⟩=ZA v
 ext:Ext W0.w w
 gs:Frz U W0 F j w
section
variable {P:Program}{U:Env}{n:Nat}{X:List Value}{W0:Wb}{fb:Nat->Option (List C)}{F:Fz}{j:J}{a:Act}{w:World}
def Rel.lt(h:Rel U n X W0 fb F j a w)(hb:j.b b=ZA k):∃cs ty vs,F.box b=ZA (cs,ty)/\W0.heap.size<=k/\Af U j cs=ZA vs/\w.heap[k]? =ZA (.cells vs.toArray ty (0,0))/\k<w.heap.size:=by
 cases hF:F.box b with
 |none=>rw[h.nob b hF]at hb;cases hb
 |some x=>
   obtain⟨cs,ty⟩:=x;obtain⟨k',vs,h1,h2,h3,h4⟩:=h.box b cs ty hF;rw[hb]at h1;cases h1;refine⟨cs,ty,vs,rfl,h2,h3,h4,?_⟩;rcases bC k w.heap.size with As|DC
   .exact As
   .rw[Array.getElem?_eq_none DC]at h4;cases h4
def kW{o ty:Nat}(h:w.heap[k]? =ZA (.cells vs.toArray ty (0,0))):w.cell? ⟨k,o,ZE⟩=vs[o]? :=by simp[World.cell?,h]
def adk{o ty:Nat}(h:w.heap[k]? =ZA (.cells vs.toArray ty (0,0))):w.frozen? ⟨k,o,ZE⟩=ZC:=by simp[World.frozen?,h]
def Rel.eval(h:Rel U n X W0 fb F j a w){v:V}(hx:PV F n x=ZA v):v.den U j=ZA (a.eval x):=by
 cases x with
 |tmp t=>
   simp only[PV]at hx;split at hx
   .rename_i ht;split at hx
    .cases hx
    .rename_i BM;cases hx;obtain⟨u,h1,h2⟩:=h.tmp t ht;rcases h2 with h2|h2
     .exact ai h2 BM
     .rw[h2];simp[Act.eval,iB,h1]
   .cases hx
 |const v0=>exact ac8 hx U j
 |global g=>cases hx
 |func f=>cases hx;rfl
def Ext.grown'{w0:World}{row:Option Nat}(h:Ext w0 w)(hg:w.grownBy w' row)(hr:∀k,row=ZA k->w0.heap.size<=k):Ext w0 w':=Below.grown h hg h.size hr
def Ext.block'{w0:World}(h:Ext w0 w)(k:Nat)(hk:k<w0.heap.size):w.heap[k]? =w0.heap[k]? :=h.block k hk
def abt{base ty Bt n:Nat}{xs:List Value}(h:w.ownsRow base ty Bt s.v n xs)(hb:∀k,s.v.ownBlock=ZA k->w'.heap[k]? =w.heap[k]?):w'.ownsRow base ty Bt s.v n xs:=by
 refine⟨h.1,?_⟩;rcases h.2 with h'|⟨g,Hp,cur,hv,h1,h2,h3⟩
 .exact .inl h'
 .exact .inr ⟨g,Hp,cur,hv,h1,by rw[hb g (by rw[hv];rfl)];exact h2,h3⟩
def SlOk.kept{base:Nat}(h:SlOk U base w s r)(BR:w.heap.size<=w'.heap.size)(hb:∀k,s.blk r.own=ZA k->w'.heap[k]? =w.heap[k]?):SlOk U base w' s r:=⟨h.n,h.rows,h.pos,fun k hk=>nr (h.lt k hk) BR,fun ho=>abt (h.own ho) (by rw[ho]at hb;exact hb),h.rd.kept (fun k hk=>hb k (bN hk))⟩
def SlOk.base{b1 b2:Nat}(h:SlOk U b1 w s r)(hb:b2<=b1):SlOk U b2 w s r:=⟨h.n,h.rows,h.pos,h.lt,fun ho=>(h.own ho).mono hb,h.rd⟩
def EvOk.kept{base:Nat}(h:EvOk U base w s r)(BR:w.heap.size<=w'.heap.size)(hb:∀k,s.blk r.own=ZA k->w'.heap[k]? =w.heap[k]?):EvOk U base w' s r:=by obtain⟨ins,h1,h2,h3,h4⟩:=h.at';exact⟨h.ks,h.n,h.rows,fun k hk=>nr (h.lt k hk) BR,h.zb,ins,h1,fun ho=>abt (h2 ho) (by rw[ho]at hb;exact hb),h3.kept (fun k hk=>hb k (bN hk)),h4⟩
def RowOk.kept{base:Nat}(h:RowOk U base w s r)(BR:w.heap.size<=w'.heap.size)(hb:∀k,s.blk r.own=ZA k->w'.heap[k]? =w.heap[k]?):RowOk U base w' s r:=by
 rcases h.cases with⟨hk,h⟩|⟨hk,h⟩|⟨hk,h⟩
 .exact(h.kept BR hb).row hk
 .obtain⟨g,ob,h1,h2,h3,h4⟩:=h.at';exact HdOk.row ⟨h.own,h.rows,h.c,g,ob,h1,h2,by rw[hb g (h.blkAt h1 r.own)];exact h3,h4⟩ hk
 .exact(h.kept BR hb).row hk
def RowOk.base{b1 b2:Nat}(h:RowOk U b1 w s r)(hb:b2<=b1):RowOk U b2 w s r:=by
 rcases h.cases with⟨hk,h⟩|⟨hk,h⟩|⟨hk,h⟩
 .exact(h.base hb).row hk
 .obtain⟨g,ob,h1,h2,h3,h4⟩:=h.at';exact HdOk.row ⟨h.own,h.rows,h.c,g,ob,h1,dd hb h2,h3,h4⟩ hk
 .obtain⟨ins,h1,h2,h3,h4⟩:=h.at';exact EvOk.row ⟨h.ks,h.n,h.rows,h.lt,fun ho p hp=>dd hb (h.zb ho p hp),ins,h1,fun ho=>(h2 ho).mono hb,h3,h4⟩ hk
def Rel.tabBlk(h:Rel U n X W0 fb F j a w){id g:Nat}(hF:F.row id=ZA (ZA r))(hk:r.kd=.tab)(hs:j.s id=ZA s)(ha:s.a=ZA ⟨g,0,ZE⟩):s.blk r.own=ZA g/\g<w.heap.size:=by obtain⟨s0,h1,h2⟩:=h.row id r hF;rw[hs]at h1;cases h1;have h3:=h2.2.1 (by rw[hk];rfl);have h4:=h3.blkAt ha r.own;exact⟨h4,h2.lt g h4⟩
def Rel.tabs(h:Rel U n X W0 fb F j a w){j':J}(hj:j'.s=j.s)(hg:j'.g=j.g)(hw:∀id r s g,F.row id=ZA (ZA r)->j.s id=ZA s->s.blk r.own=ZA g->w'.heap[g]? =w.heap[g]?):∀id r s,F.row id=ZA (ZA r)->r.kd=.tab->j'.s id=ZA s->TbAt U j' w' s r:=fun id r s h1 h2 h3=>
 (h.gs.tb id r s h1 h2 (by rw[<-hj];exact h3)).mono rfl rfl (fun k o _ hz=>by rw[hg];exact hz) (fun g ha=>hw id r s g h1 (by rw[<-hj];exact h3) (h.tabBlk h1 h2 (by rw[<-hj];exact h3) ha).1)
def Rel.kept(h:Rel U n X W0 fb F j a w)(hx:Ext W0.w w')(BR:w.heap.size<=w'.heap.size)
  (hb:∀b k,j.b b=ZA k->w'.heap[k]? =w.heap[k]?) (hr:∀b r s k,F.row b=ZA (ZA r)->j.s b=ZA s->s.blk r.own=ZA k->w'.heap[k]? =w.heap[k]?) (hz:∀k o,j.g.z k=ZA o->w'.heap[k]? =w.heap[k]?):Rel U n X W0 fb F j a w' where
 defers:=h.defers
 size:=h.size
 tmp:=h.tmp
 sav:=h.sav
 box b cs ty hF:=by obtain⟨k,vs,h1,h2,h3,h4⟩:=h.box b cs ty hF;exact⟨k,vs,h1,h2,h3,by rw[hb b k h1];exact h4⟩
 nob:=h.nob
 inj:=h.inj
 row b r hF:=by obtain⟨s,h1,h2⟩:=h.row b r hF;exact⟨s,h1,h2.kept BR (fun k hk=>hr b r s k hF h1 hk)⟩
 nor:=h.nor
 sep:=h.sep
 rsep:=h.rsep
 fb b cs hF:=by obtain⟨k,vs,h1,h2,h3,h4⟩:=h.fb b cs hF;refine⟨k,vs,h1,h2,h3,fun o v ho hs=> ?_⟩;have h5:=h4 o v ho hs;have e1:w'.heap[k]? =w.heap[k]? :=(hx.block k h2).trans (h.ext.block k h2).symm;rw[World.cell?_of_block (a:=⟨k,o,ZE⟩) e1];exact h5
 ext:=hx
 gs:=h.gs.step rfl rfl (fun _ h=>h) hz (fun _ _ h=>.inl h) (fun id r s h1 h2=>.inl ⟨id,r,s,h1,h2,fun h=>h,fun _ h=>.inl h⟩) h.gs.ev (h.tabs rfl rfl hr)
def Rel.more(h:Rel U n X W0 fb F j a w){w1:World}(hx:Ext w w1):Rel U n X W0 fb F j a w1:=
 h.kept (h.ext.trans hx) hx.size (fun b k hk=>by
  obtain⟨_,_,_,_,_,_,_,As⟩:=h.lt hk;exact hx.block k As) (fun b r s k hF hs hk=>by
  obtain⟨s',h1,h2⟩:=h.row b r hF;rw[hs]at h1;cases h1;exact hx.block k (h2.lt k hk)) (fun k o hz=>hx.block k (h.gs.lt hz))
def Rel.put(h:Rel U n X W0 fb F j a w){dst:Option Nat}{v:V}{u:Value}(hv:v.den U j=ZA u)(hd:∀d,dst=ZA d->d<n):Rel U n X W0 fb (F.put dst v) j (a.put dst u) w where
 defers:=by cases dst<;>simp[Act.put,h.defers]
 size:=by cases dst<;>simp[Act.put,h.size]
 tmp t ht:=by
  cases dst with
  |none=>simpa[Fz.put,Act.put]using h.tmp t ht
  |some d=>
    by_cases hdt:d=t
    .subst hdt;exact⟨u,by simp[Act.put,Array.getElem?_setIfInBounds,h.size,ht],.inr (by simp[Fz.put,hv])⟩
    .obtain⟨x,h1,h2⟩:=h.tmp t ht;exact⟨x,by simp[Act.put,Array.getElem?_setIfInBounds,hdt,h1],by simpa[Fz.put,hdt]using h2⟩
 sav i v hi:=by
  have:¬dst=ZA (n+i):=fun e=>by have:=hd _ e;omega
  simpa only[Fz.put,this,eA]using h.sav i v hi
 box:=h.box
 nob:=h.nob
 inj:=h.inj
 row:=h.row
 nor:=h.nor
 sep:=h.sep
 rsep:=h.rsep
 fb:=h.fb
 ext:=h.ext
 gs:=h.gs.step rfl rfl (fun _ h=>h) (fun _ _ _=>rfl) (fun _ _ h=>.inl h) (fun id r s h1 h2=>.inl ⟨id,r,s,h1,h2,fun h=>h,fun _ h=>.inl h⟩) h.gs.ev h.gs.tb
def Rel.new(h:Rel U n X W0 fb F j a w){ty:Nat}{cs:List C}(hd:Af U j cs=ZA vs)(hn:F.box nid=ZE):
  Rel U n X W0 fb (F.new nid (cs,ty)) {j with b:=fun b=>if b=nid then ZA w.heap.size else j.b b} a (w.alloc (.cells vs.toArray ty)):=by
 have hs:Sub j {j with b:=fun b=>if b=nid then ZA w.heap.size else j.b b}:=⟨fun b k hb=>by
  have:b≠nid:=fun e=>by rw[e,h.nob nid hn]at hb;cases hb
  simp[this,hb],fun _ _ hb=>hb,fun _ _ hb=>hb,fun _ _ hb=>hb⟩
 have h':=h.more ((Ext.refl w).alloc (.cells vs.toArray ty));refine⟨h.defers,h.size,fun t ht=> ?_,fun i v hi=>(h.sav i v hi).imp id (V.den_sub hs),fun b Gv Pj hF=> ?_,fun b hF=> ?_,fun b b' k h1 h2=> ?_,h'.row,h'.nor,fun b b' k r s h1 h2 h3 h4=> ?_,h'.rsep,fun b cs hF=> ?_,h'.ext,h.gs.step rfl rfl (fun _ h=>h) (fun k o hz=>((Ext.refl w).alloc (.cells vs.toArray ty)).block k (h.gs.lt hz)) (fun b k hb=> ?_) (fun id r s h1 h2=>.inl ⟨id,r,s,h1,h2,fun h=>h,fun _ h=>.inl h⟩) h.gs.ev (h.tabs (j':={j with b:=fun b=>if b=nid then ZA w.heap.size else j.b b}) rfl rfl (fun id r s g h1 h2 h3=>((Ext.refl w).alloc (.cells vs.toArray ty)).block g (by obtain⟨s',h5,h6⟩:=h.row id r h1;rw[h2]at h5;cases h5;exact h6.lt g h3)))⟩
 .obtain⟨v,h1,h2⟩:=h.tmp t ht;exact⟨v,h1,h2.imp id (V.den_sub hs)⟩
 .by_cases hb:b=nid
  .simp only[Fz.new,hb,bm,bo,Prod.mk.injEq]at hF;obtain⟨rfl,rfl⟩:=hF;exact⟨w.heap.size,vs,by simp[hb],h.ext.size,bH hs hd,by exact heap_alloc_new _ _⟩
  .simp only[Fz.new,hb,eA]at hF;obtain⟨k,us,h1,h2,h3,h4⟩:=h'.box b Gv Pj hF;exact⟨k,us,by simp[hb,h1],h2,bH hs h3,h4⟩
 .by_cases hb:b=nid
  .simp[Fz.new,hb]at hF
  .simp only[Fz.new,hb,eA]at hF;simp[hb,h.nob b hF]
 .by_cases hb:b=nid<;>by_cases Ex:b'=nid<;>simp only[hb,Ex,bm,eA]at h1 h2
  .rw[hb,Ex]
  .obtain⟨_,_,_,_,_,_,_,As⟩:=h.lt h2;cases h1;omega
  .obtain⟨_,_,_,_,_,_,_,As⟩:=h.lt h1;cases h2;omega
  .exact h.inj b b' k h1 h2
 .by_cases hb:b=nid
  .simp only[hb,bm,bo]at h1;obtain⟨s',h5,h6⟩:=h.row b' r h2;rw[h3]at h5;cases h5;have:=h6.lt k h4;omega
  .simp only[hb,eA]at h1;exact h.sep b b' k r s h1 h2 h3 h4
 .obtain⟨k,us,h1,h2,h3,h4⟩:=h'.fb b cs hF;exact⟨k,us,h1,h2,bH hs h3,h4⟩
 .dsimp only at hb;split at hb
  .cases hb;exact .inr (ZK _)
  .exact .inl hb
def Rel.wr1(h:Rel U n X W0 fb F j a w){o:Nat}{c:C}(hk:j.b b=ZA k)(hv:c.den U j=ZA v):Rel U n X W0 fb (F.wr (b,o,c)) j a (w.setCell ⟨k,o,ZE⟩ v):=by
 obtain⟨cs,ty,vs,hF,DC,hd,hh,As⟩:=h.lt hk;have DG:∀k',k'≠k->(w.setCell ⟨k,o,ZE⟩ v).heap[k']? =w.heap[k']? :=fun k' BM=>heap_setCell_other w ⟨k,o,ZE⟩ k' v BM;have hx:Ext W0.w (w.setCell ⟨k,o,ZE⟩ v):=h.ext.setCell DC v;have BR:w.heap.size<=(w.setCell ⟨k,o,ZE⟩ v).heap.size:=by simp[World.setCell]
 refine⟨h.defers,h.size,h.tmp,h.sav,fun b' Gv Pj Bx=> ?_,fun b' Bx=> ?_,h.inj,fun b' r Bx=> ?_,h.nor,h.sep,h.rsep,fun b' Gv Bx=> ?_,hx,h.gs.step rfl rfl (fun _ h=>h) (fun k' o' hz=>DG k' (fun e=>h.gs.box k' o' b hz (e▸hk))) (fun _ _ h=>.inl h) (fun id r s h1 h2=>.inl ⟨id,r,s,h1,h2,fun h=>h,fun _ h=>.inl h⟩) h.gs.ev (h.tabs rfl rfl (fun id r s g h1 h2 h3=>DG g (fun e=>h.sep b id k r s hk h1 h2 (e▸h3))))⟩
 .by_cases hb:b'=b
  .subst hb;simp only[Fz.wr,bm,hF,YR,bo,Prod.mk.injEq]at Bx;obtain⟨rfl,rfl⟩:=Bx;refine⟨k,vs.set o v,hk,DC,uJ hd o c v hv,?_⟩;have:=heap_setCell_same w k o vs.toArray ty v hh;simpa using this
  .simp only[Fz.wr,hb,eA]at Bx;obtain⟨k',us,h1,h2,h3,h4⟩:=h.box b' Gv Pj Bx;exact⟨k',us,h1,h2,h3,by rw[DG k' (fun e=>hb (h.inj b' b k (by rw[h1,e]) hk))];exact h4⟩
 .by_cases hb:b'=b
  .subst hb;simp[Fz.wr,hF]at Bx
  .simp only[Fz.wr,hb,eA]at Bx;exact h.nob b' Bx
 .obtain⟨s,h1,h2⟩:=h.row b' r Bx;exact⟨s,h1,h2.kept BR (fun k' B2=>DG k' (fun e=>h.sep b b' k r s hk Bx h1 (e▸B2)))⟩
 .obtain⟨k',us,h1,h2,h3,h4⟩:=h.fb b' Gv Bx;refine⟨k',us,h1,h2,h3,fun o' v' ho Bj=> ?_⟩;rw[World.cell?_of_block (a:=⟨k',o',ZE⟩) (DG k' Fn)];exact h4 o' v' ho Bj
def Rel.wrs:∀{l:List (Nat×Nat×C)} {F:Fz} {w w':World},Rel U n X W0 fb F j a w->sN U j l w w'->Rel U n X W0 fb (F.wrs l) j a w'
 |[],F,w,w',h,hw=>by have e:w'=w:=hw;subst e;exact h
 |(b,o,c)::l,F,w,w',h,hw=>by obtain⟨k,v,hk,hv,Qb⟩:=hw;exact Rel.wrs (F:=F.wr (b,o,c)) (h.wr1 hk hv) Qb
def Rel.turn(h:Rel U n X W0 fb F j a w){id:Nat}(hq:F.row id=ZA (ZA q))(AL:q.own=ZB)(hs:j.s id=ZA s)(hg:w.grownBy w' s.v.ownBlock):
  Ext W0.w w'/\(∀b k,j.b b=ZA k->w'.heap[k]? =w.heap[k]?)/\(∀b r s' k,b≠id->F.row b=ZA (ZA r)->j.s b=ZA s'->s'.blk r.own=ZA k->w'.heap[k]? =w.heap[k]?)/\(∀k o,j.g.z k=ZA o->w'.heap[k]? =w.heap[k]?):=by
 obtain⟨s0,h1,h2⟩:=h.row id q hq;rw[hs]at h1;cases h1;refine⟨h.ext.grown' hg (fun k hk=>(h2.owned AL k hk).2),fun b k hb=> ?_,fun b r s' k BM hF Bj hk=> ?_,fun k o hz=>hg.block k (h.gs.lt hz) (fun e=>h.gs.row k o id q s hz hq hs (.inl AL) (by rw[AL];exact e.symm))⟩
 .obtain⟨_,_,_,_,_,_,_,As⟩:=h.lt hb;exact hg.block k As (fun e=>h.sep b id k q s hb hq hs (by rw[AL];exact e.symm))
 .obtain⟨s1,h3,h4⟩:=h.row b r hF;rw[Bj]at h3;cases h3;exact hg.block k (h4.lt k hk) (fun e=>BM (h.rsep id b q r s s' k hq AL hF hs Bj (by rw[AL];exact e.symm) hk).symm)
end
section
variable {P:Program}{U:Env}{n:Nat}{X:List Value}{W0:Wb}{fb:Nat->Option (List C)}{F:Fz}{j:J}{a:Act}{w:World}
def Gb(F:Fz)(nid:Nat):RE->Prop
 |.none=>True
 |.set id r=>(∃q,F.row id=ZA (ZA q)/\q.own=ZB)/\r.own=ZB
 |.mk rs=>∀i,i<rs.length->F.row (nid+i)=ZE
 |.app old r=>(∃q,F.row old=ZA (ZA q)/\q.own=ZB)/\r.own=ZB/\F.row nid=ZE/\nid≠old
 |.view old q r=>(∃q0,F.row old=ZA (ZA q0))/\q.own=ZC/\r.own=ZC/\F.row nid=ZE/\nid≠old
 |.peek r=>r.own=ZC/\F.row nid=ZE
 |.frz old q r=>(∃q0,F.row old=ZA (ZA q0)/\q0.own=ZB)/\q.own=ZC/\r.own=ZB/\F.row nid=ZE/\nid≠old
 |.tset old q tab r=>(∃q0,F.row old=ZA (ZA q0)/\q0.own=ZB)/\q.own=ZC/\(∃r0,F.row tab=ZA (ZA r0)/\r0.own=ZB)/\r.own=ZB/\tab≠old
def mJ:∀(rs:List RowOb) (nid:Nat) (F:Fz) (b:Nat),(F.rws (EW nid rs)).row b=if nid<=b/\b<nid+rs.length then ZA rs[b-nid]? else F.row b
 |[],nid,F,b=>by simp[EW,Fz.rws];omega
 |r::rs,nid,F,b=>by
   show((F.rw1 (nid,ZA r)).rws (EW (nid+1) rs)).row b=_;rw[mJ rs (nid+1)];by_cases h1:nid+1<=b/\b<nid+1+rs.length
   .rw[ae h1,ae XD];rw[show b-nid=(b-(nid+1))+1 by omega];rfl
   .rw[aa h1];by_cases h2:b=nid
    .subst h2;rw[ae (by simp)];simp[Fz.rw1]
    .rw[aa XD];simp[Fz.rw1,h2]
def bf:∀(l:List (Nat×Option RowOb)) (F:Fz),(F.rws l).box=F.box/\(F.rws l).tmp=F.tmp/\(F.rws l).lp=F.lp
 |[],_=>⟨rfl,rfl,rfl⟩
 |p::l,F=>bf l (F.rw1 p)
def Rel.set(h:Rel U n X W0 fb F j a w){id:Nat}(hr:Gb F 0 (.set id r))(hs:j.s id=ZA s)(hg:w.grownBy w' s.v.ownBlock)(Aj:RowOk U W0.heap.size w' s r)(ht:r.kd=.tab->TbAt U j w' s r):Rel U n X W0 fb (F.rws (RE.rs 0 (.set id r))) j a w':=by
 obtain⟨⟨q,hq,AL⟩,Gj⟩:=hr;obtain⟨hx,hb,Fb,hz⟩:=h.turn hq AL hs hg;have KA:∀b r',(F.rw1 (id,ZA r)).row b=ZA (ZA r')->∃q',F.row b=ZA (ZA q')/\r'.own=q'.own:=by
  intro b r' hF;simp only[Fz.rw1]at hF;split at hF
  next GK=>subst GK;simp only[bo]at hF;subst hF;exact⟨q,hq,by rw[AL];exact Gj⟩
  .exact⟨r',hF,rfl⟩
 show Rel U n X W0 fb (F.rw1 (id,ZA r)) j a w';refine⟨h.defers,h.size,h.tmp,h.sav,fun b cs ty hF=> ?_,h.nob,h.inj,fun b r' hF=> ?_,fun b hF=> ?_,fun b b' k r' s' h1 h2 h3=> ?_,fun b b' r1 r2 s1 s2 k h1 h2 h3 h4 h5=> ?_,fun b cs hF=> ?_,hx,h.gs.step rfl rfl (fun b hF=> ?_) hz (fun _ _ h=>.inl h) (fun b r' s' h1 h2=> ?_) (fun b r' s' h1 h2=> ?_) (fun b r' s' h1 hk h2=> ?_)⟩
 .obtain⟨k,vs,h1,h2,h3,h4⟩:=h.box b cs ty hF;exact⟨k,vs,h1,h2,h3,by rw[hb b k h1];exact h4⟩
 .by_cases GK:b=id
  .subst GK;simp only[Fz.rw1,bm,bo]at hF;subst hF;exact⟨s,hs,Aj⟩
  .simp only[Fz.rw1,GK,eA]at hF;obtain⟨s',h1,h2⟩:=h.row b r' hF;exact⟨s',h1,h2.kept hg.size (fun k hk=>Fb b r' s' k GK hF h1 hk)⟩
 .simp only[Fz.rw1]at hF;split at hF
  .exact XW
  .exact h.nor b hF
 .obtain⟨q',Gz,ho⟩:=KA b' r' h2;rw[ho];exact h.sep b b' k q' s' h1 Gz h3
 .obtain⟨q1,OO,ho⟩:=KA b r1 h1;obtain⟨q2,GQ,GO⟩:=KA b' r2 h3;rw[ho,GO];exact h.rsep b b' q1 q2 s1 s2 k OO (by rw[<-ho];exact h2) GQ h4 h5
 .obtain⟨k,vs,h1,h2,h3,h4⟩:=h.fb b cs hF;refine⟨k,vs,h1,h2,h3,fun o v ho Bj=> ?_⟩;rw[World.cell?_of_block (a:=⟨k,o,ZE⟩) ((hx.block' k h2).trans (h.ext.block' k h2).symm)];exact h4 o v ho Bj
 .simp only[Fz.rw1]at hF;split at hF
  .exact XW
  .exact hF
 .obtain⟨q',h3,h4⟩:=KA b r' h1;exact .inl ⟨b,q',s',h3,h2,fun e=>by rw[<-h4];exact e,fun k hk=>.inl (by rw[<-h4];exact hk)⟩
 .obtain⟨q',h3,h4⟩:=KA b r' h1;exact h.gs.ev b q' s' h3 h2
 .by_cases GK:b=id
  .subst GK;simp only[Fz.rw1,bm,bo]at h1;subst h1;rw[hs]at h2;cases h2;exact ht hk
  .simp only[Fz.rw1,GK,eA]at h1;exact(h.gs.tb b r' s' h1 hk h2).mono rfl rfl (fun _ _ _ hz=>hz) (fun g ha=>Fb b r' s' g GK h1 h2 (h.tabBlk h1 hk h2 ha).1)
def ua{svs:List SV}:(j.putL nid svs).s b=if nid<=b/\b<nid+svs.length then svs[b-nid]? else j.s b:=by
 simp only[J.putL];by_cases h1:nid<=b
 .by_cases h2:b<nid+svs.length
  .rw[ae h1,ae ⟨h1,h2⟩,AH Fn]
  .rw[ae h1,aa (fun e=>h2 e.2),cn Fn]
 .rw[aa h1,aa (fun e=>h1 e.1)]
def Rel.made(h:Rel U n X W0 fb F j a w){rs:List RowOb}{svs:List SV}(hr:Gb F nid (.mk rs))(hx:Ext w w')(hl:svs.length=rs.length)
  (Aj:∀(i:Nat) u r,svs[i]? =ZA u->rs[i]? =ZA r->RowOk U w.heap.size w' u r/\r.own=ZB/\(r.kd=.tab->∀jj,TbAt U jj w' u r)) (Ox:∀(i i':Nat) u u' k,svs[i]? =ZA u->svs[i']? =ZA u'->u.v.ownBlock=ZA k->u'.v.ownBlock=ZA k->i=i') (IJ:∀u∈svs,NewZ w w' svs u):
  Rel U n X W0 fb (F.rws (EW nid rs)) ((j.putL nid svs).addzs (svs.flatMap (·.z))) a w':=by
 have h':=h.more hx;have hn:∀b,nid<=b->b<nid+rs.length->j.s b=ZE:=fun b h1 h2=>h.nor b (by have:=hr (b-nid) Fn;rwa [show nid+(b-nid)=b by omega]at this);have RH:Sub j (j.putL nid svs):=⟨fun _ _ hb=>hb,fun b v hb=>by
  rw[ua];split
  next De=>rw[hn b De.1 Fn]at hb;cases hb
  .exact hb,fun _ _ hb=>hb,fun _ _ hb=>hb⟩
 obtain⟨e1,e2,e3⟩:=bf (EW nid rs) F;generalize Jh:svs.flatMap (·.z)=zs;obtain⟨f1,f2,f3,f4⟩:=ajd (j.putL nid svs) zs;have hs:Sub j ((j.putL nid svs).addzs zs):=RH.trans ⟨fun b k e=>by rw[f2];exact e,fun b k e=>by rw[f1];exact e,fun b k e=>by rw[f3];exact e,fun b k e=>by rw[f4];exact e⟩;have I0:∀p∈zs,w'.heap[p.1]? =ZA p.2/\Cg p.2=ZB/\w.heap.size<=p.1/\∀u∈svs,u.v.ownBlock≠ZA p.1:=fun p hp=>by rw[<-Jh,List.mem_flatMap]at hp;obtain⟨u,hu,hp⟩:=hp;exact IJ u hu p hp
 have one:∀p∈zs,∀q∈zs,p.1=q.1->p.2=q.2:=fun p hp q hq e=>by have h1:=(I0 p hp).1;rw[e,(I0 q hq).1]at h1;exact(ZN h1).symm
 have DY:∀k o,j.g.z k=ZA o->∀p∈zs,p.1≠k:=fun k o hk p hp e=>by have:=h.gs.lt hk;have:=(I0 p hp).2.2.1;omega
 have rows:∀b r,(F.rws (EW nid rs)).row b=ZA (ZA r)->(F.row b=ZA (ZA r)/\(j.putL nid svs).s b=j.s b/\¬(nid<=b/\b<nid+rs.length))\/∃i u,b=nid+i/\svs[i]? =ZA u/\rs[i]? =ZA r/\(j.putL nid svs).s b=ZA u:=by
  intro b r hF;rw[mJ]at hF;rw[ua,hl];split at hF
  next De=>right;have hi:b-nid<svs.length:=Fn;refine⟨b-nid,svs[b-nid],by omega,AH hi,by simpa using hF,?_⟩;rw[ae De,AH hi]
  next De=>exact .inl ⟨hF,by rw[aa De],De⟩
 have blk:∀(i:Nat) (u:SV) (r:RowOb),svs[i]? =ZA u->rs[i]? =ZA r->∀k,u.v.ownBlock=ZA k->w.heap.size<=k:=fun i u r h1 h2 k hk=>((Aj i u r h1 h2).1.owned (Aj i u r h1 h2).2.1 k hk).2;refine⟨h'.defers,h'.size,fun t ht=> ?_,fun i v hi=>by rw[e2];exact(h'.sav i v hi).imp _root_.id (V.den_sub hs),fun b cs ty hF=> ?_,fun b hF=> ?_,fun b b' k h1 h2=> ?_,fun b r hF=> ?_,fun b hF=> ?_,fun b b' k r s h1 h2 h3 h4=> ?_,fun b b' r1 r2 s1 s2 k h1 h2 h3 h4 h5 h6 h7=> ?_,fun b cs hF=> ?_,h'.ext,⟨fun k o hk=> ?_,fun k o b hk e=> ?_,fun k o b r s hk hF CH hc e=> ?_,fun D hD=> ?_,h.gs.nd,fun i y hy=> ?_,fun i hF hy=> ?_,fun b r s h1 h2=> ?_,fun b r s h1 hk h2=> ?_⟩⟩
 .rw[e2];obtain⟨v,h1,h2⟩:=h'.tmp t ht;exact⟨v,h1,h2.imp _root_.id (V.den_sub hs)⟩
 .rw[e1]at hF;obtain⟨k,vs,h1,h2,h3,h4⟩:=h'.box b cs ty hF;exact⟨k,vs,by rw[f2];exact h1,h2,bH hs h3,h4⟩
 .rw[e1]at hF;rw[f2];exact h'.nob b hF
 .rw[f2]at h1 h2;exact h'.inj b b' k h1 h2
 .rw[f1];rcases rows b r hF with⟨h1,h2,_⟩|⟨i,u,rfl,h1,h2,h3⟩
  .rw[h2];exact h'.row b r h1
  .exact⟨u,h3,(Aj i u r h1 h2).1.base h.ext.size⟩
 .rw[mJ]at hF;rw[f1,ua,hl];split at hF
  next De=>exfalso;rw[AH Fn]at hF;cases hF
  next De=>rw[aa De];exact h.nor b hF
 .rw[f2]at h1;rw[f1]at h3;have Hr:j.b b=ZA k:=h1;rcases rows b' r h2 with⟨g1,g2,_⟩|⟨i,u,rfl,g1,g2,g3⟩
  .rw[g2]at h3;exact h.sep b b' k r s Hr g1 h3 h4
  .rw[g3]at h3;cases h3;obtain⟨_,_,_,_,_,_,_,As⟩:=h.lt Hr;have:=blk i _ r g1 g2 k (ay h4);omega
 .rw[f1]at h4 h5;rcases rows b r1 h1 with⟨g1,g2,_⟩|⟨i,u,rfl,g1,g2,g3⟩
  .rw[g2]at h4;rcases rows b' r2 h3 with⟨q1,q2,_⟩|⟨i',u',rfl,q1,q2,q3⟩
   .rw[q2]at h5;exact h.rsep b b' r1 r2 s1 s2 k g1 h2 q1 h4 h5 h6 h7
   .rw[q3]at h5;cases h5;obtain⟨s0,p1,p2⟩:=h.row b r1 g1;rw[h4]at p1;cases p1;have:=p2.lt k h6;have:=blk i' _ r2 q1 q2 k (ay h7);omega
  .rw[g3]at h4;cases h4;rcases rows b' r2 h3 with⟨q1,q2,_⟩|⟨i',u',rfl,q1,q2,q3⟩
   .rw[q2]at h5;obtain⟨s0,p1,p2⟩:=h.row b' r2 q1;rw[h5]at p1;cases p1;have:=p2.lt k h7;have:=blk i _ r1 g1 g2 k (ay h6);omega
   .rw[q3]at h5;cases h5;rw[Ox i i' _ _ k g1 q1 (ay h6) (ay h7)]
 .obtain⟨k,vs,h1,h2,h3,h4⟩:=h'.fb b cs hF;exact⟨k,vs,by rw[f3];exact h1,h2,bH hs h3,h4⟩
 .rcases qX hk with h1|⟨_,h1⟩
  .obtain⟨z1,z2,z3,_⟩:=I0 _ h1;exact⟨z1,fun e=>by rw[z2]at e;cases e⟩
  .exact h'.gs.at' k o h1
 .rw[f2]at e;rcases qX hk with h1|⟨_,h1⟩
  .obtain⟨_,_,z3,_⟩:=I0 _ h1;obtain⟨_,_,_,_,_,_,_,As⟩:=h.lt (show j.b b=ZA k from e);simp only at z3;omega
  .exact h.gs.box k o b h1 e
 .rw[f1]at CH;rcases qX hk with h1|⟨_,h1⟩
  .obtain⟨_,_,z3,z4⟩:=I0 _ h1;rcases rows b r hF with⟨g1,g2,_⟩|⟨i,u,rfl,g1,g2,g3⟩
   .rw[g2]at CH;obtain⟨s0,p1,p2⟩:=h.row b r g1;rw[CH]at p1;cases p1;have:=p2.lt k e;simp only at z3;omega
   .rw[g3]at CH;cases CH;exact z4 _ (fI g1) (ay e)
  .have As:=h.gs.lt h1;rcases rows b r hF with⟨g1,g2,_⟩|⟨i,u,rfl,g1,g2,g3⟩
   .rw[g2]at CH;exact h.gs.row k o b r s h1 g1 CH hc e
   .rw[g3]at CH;cases CH;have:=blk i _ r g1 g2 k (ay e);omega
 .have h1:=h.gs.md D hD;rw[ja (DY D _ h1)];exact h1
 .rw[e3]at hy;obtain⟨rf,o,h1,h2,h3,h4⟩:=h.gs.lp i y hy;exact⟨rf,o,h1,by rw[f4];exact h2,by rw[ja (DY _ _ h3)];exact h3,h4⟩
 .rw[f4];rw[e3]at hy;refine h.gs.nol i ?_ hy;rw[mJ]at hF;split at hF
  next De=>rw[AH Fn]at hF;cases hF
  .exact hF
 .intro p hp;rw[f1]at h2;rcases rows b r h1 with⟨g1,g2,_⟩|⟨i,u,rfl,g1,g2,g3⟩
  .rw[g2]at h2;obtain⟨z1,z2⟩:=h.gs.ev b r s g1 h2 p hp;exact⟨by rw[ja (DY _ _ z1)];exact z1,z2⟩
  .rw[g3]at h2;cases h2;have hm:p∈zs:=by
    rw[<-Jh,List.mem_flatMap];exact⟨_,fI g1,hp⟩
   exact⟨ajc one hm,(I0 p hm).2.1⟩
 .rw[f1]at h2;rcases rows b r h1 with⟨g1,g2,_⟩|⟨i,u,rfl,g1,g2,g3⟩
  .rw[g2]at h2;exact(h.gs.tb b r s g1 hk h2).mono rfl rfl (fun k o _ hz=>by rw[ja (DY k o hz)];exact hz) (fun g ha=>hx.block g (h.tabBlk g1 hk h2 ha).2)
  .rw[g3]at h2;cases h2;exact(Aj i s r g1 g2).2.2 hk _
def Sub.putS(h:j.s nid=ZE):Sub j (j.putS nid s):=⟨fun _ _ hb=>hb,fun b v hb=>by
 simp only[J.putS];split
 next e=>subst e;rw[h]at hb;cases hb
 .exact hb,fun _ _ hb=>hb,fun _ _ hb=>hb⟩
def Rel.app(h:Rel U n X W0 fb F j a w)(hr:Gb F nid (.app old r))(hs:j.s old=ZA s)(hg:w.grownBy w' s.v.ownBlock)(Aj:RowOk U W0.heap.size w' s' r)(DV:s'.v.ownBlock=s.v.ownBlock\/s'.v.ownBlock=ZA w.heap.size)(IJ:Zin j s')(OL:r.kd≠.tab):
  Rel U n X W0 fb (F.rws (RE.rs nid (.app old r))) (j.putS nid s') a w':=by
 obtain⟨⟨q,hq,AL⟩,Gj,IB,BM⟩:=hr;obtain⟨hx,hb,Fb,hz⟩:=h.turn hq AL hs hg;have BG:Sub j (j.putS nid s'):=Sub.putS (h.nor nid IB);have rows:∀b r',((F.rw1 (old,ZE)).rw1 (nid,ZA r)).row b=ZA (ZA r')->(b=nid/\r'=r)\/(b≠nid/\b≠old/\F.row b=ZA (ZA r')/\(j.putS nid s').s b=j.s b):=by
  intro b r' hF;simp only[Fz.rw1]at hF;split at hF
  .exact XB
  .rename_i e;split at hF
   .exact XW
   next e'=>exact .inr ⟨e,e',hF,by simp[J.putS,e]⟩
 have Cp:(j.putS nid s').s nid=ZA s':=by simp[J.putS]
 have Bn:∀b,b≠nid->(j.putS nid s').s b=j.s b:=fun b e=>by simp[J.putS,e]
 show Rel U n X W0 fb ((F.rw1 (old,ZE)).rw1 (nid,ZA r)) (j.putS nid s') a w';refine⟨h.defers,h.size,fun t ht=> ?_,fun i v hi=>(h.sav i v hi).imp _root_.id (V.den_sub BG),fun b cs ty hF=> ?_,h.nob,h.inj,fun b r' hF=> ?_,fun b hF=> ?_,fun b b' k r' s1 h1 h2 h3 h4=> ?_,fun b b' r1 r2 s1 s2 k h1 h2 h3 h4 h5 h6 h7=> ?_,fun b cs hF=> ?_,hx,h.gs.step rfl rfl (fun b hF=> ?_) hz (fun _ _ h=>.inl h) (fun b r' s1 h1 h2=> ?_) (fun b r' s1 h1 h2=> ?_) (fun b r' s1 h1 hk h2=> ?_)⟩
 .obtain⟨v,h1,h2⟩:=h.tmp t ht;exact⟨v,h1,h2.imp _root_.id (V.den_sub BG)⟩
 .obtain⟨k,vs,h1,h2,h3,h4⟩:=h.box b cs ty hF;exact⟨k,vs,h1,h2,bH BG h3,by rw[hb b k h1];exact h4⟩
 .rcases rows b r' hF with⟨rfl,rfl⟩|⟨e1,e2,Bx,Bj⟩
  .exact YN
  .rw[Bj];obtain⟨s1,h1,h2⟩:=h.row b r' Bx;exact⟨s1,h1,h2.kept hg.size (fun k hk=>Fb b r' s1 k e2 Bx h1 hk)⟩
 .simp only[Fz.rw1]at hF;split at hF
  .exact XW
  .rename_i e;split at hF
   .exact XW
   .exact YF
 .have Hr:j.b b=ZA k:=h1;obtain⟨_,_,_,_,_,_,_,As⟩:=h.lt Hr;rcases rows b' r' h2 with⟨rfl,rfl⟩|⟨e1,e2,Bx,Bj⟩
  .rw[Cp]at h3;cases h3;rcases DV with e|e
   .exact h.sep b old k q s Hr hq hs (mY AL (e▸ay h4))
   .have h4:=ay h4;rw[e]at h4;cases h4;omega
  .rw[Bj]at h3;exact h.sep b b' k r' s1 Hr Bx h3 h4
 .rcases rows b r1 h1 with⟨rfl,rfl⟩|⟨e1,e2,HI,CH⟩
  .rcases rows b' r2 h3 with⟨rfl,_⟩|⟨e3,e4,Jc,JO⟩
   .rfl
   .exfalso;rw[Cp]at h4;cases h4;rw[JO]at h5;rcases DV with e|e
    .exact e4 (h.rsep old b' q r2 s s2 k hq AL Jc hs h5 (mY AL (e▸ay h6)) h7).symm
    .obtain⟨s0,p1,p2⟩:=h.row b' r2 Jc;rw[h5]at p1;cases p1;have:=p2.lt k h7;have h6:=ay h6;rw[e]at h6;cases h6;omega
  .rw[CH]at h4;rcases rows b' r2 h3 with⟨rfl,_⟩|⟨e3,e4,Jc,JO⟩
   .exfalso;rw[Cp]at h5;cases h5;rcases DV with e|e
    .exact e2 (h.rsep b old r1 q s1 s k HI h2 hq h4 hs h6 (mY AL (e▸ay h7)))
    .obtain⟨s0,p1,p2⟩:=h.row b r1 HI;rw[h4]at p1;cases p1;have:=p2.lt k h6;have h7:=ay h7;rw[e]at h7;cases h7;omega
   .rw[JO]at h5;exact h.rsep b b' r1 r2 s1 s2 k HI h2 Jc h4 h5 h6 h7
 .obtain⟨k,vs,h1,h2,h3,h4⟩:=h.fb b cs hF;refine⟨k,vs,h1,h2,bH BG h3,fun o v ho Bj=> ?_⟩;rw[World.cell?_of_block (a:=⟨k,o,ZE⟩) ((hx.block' k h2).trans (h.ext.block' k h2).symm)];exact h4 o v ho Bj
 .simp only[Fz.rw1]at hF;split at hF
  .exact XW
  .split at hF
   .exact XW
   .exact hF
 .rcases rows b r' h1 with⟨rfl,rfl⟩|⟨e1,e2,Bx,Bj⟩
  .rw[Cp]at h2;cases h2;refine .inl ⟨old,q,s,hq,hs,fun _=>AL,fun k hk=> ?_⟩;rcases DV with e|e
   .exact .inl (mY AL (e▸ay hk))
   .have:=ay hk;rw[e]at this;cases this;exact .inr (ZK _)
  .rw[Bj]at h2;exact .inl ⟨b,r',s1,Bx,h2,fun h=>h,fun _ h=>.inl h⟩
 .rcases rows b r' h1 with⟨rfl,rfl⟩|⟨e1,e2,Bx,Bj⟩
  .rw[Cp]at h2;cases h2;exact IJ
  .rw[Bj]at h2;exact h.gs.ev b r' s1 Bx h2
 .rcases rows b r' h1 with⟨rfl,rfl⟩|⟨e1,e2,Bx,Bj⟩
  .exact ai hk OL
  .rw[Bj]at h2;exact(h.gs.tb b r' s1 Bx hk h2).mono rfl rfl (fun _ _ _ hz=>hz) (fun g ha=>Fb b r' s1 g e2 Bx h2 (h.tabBlk Bx hk h2 ha).1)
def Rel.view(h:Rel U n X W0 fb F j a w)(hr:Gb F nid (.view old q r))(hs:j.s old=ZA s)(hq:RowOk U W0.heap.size w s q)(Aj:RowOk U W0.heap.size w s' r)(DV:∀k,s'.blk ZC=ZA k->s.blk ZC=ZA k)(IJ:Zin j s')(Gz:q.kd≠.tab)(OL:r.kd≠.tab):
  Rel U n X W0 fb (F.rws (RE.rs nid (.view old q r))) (j.putS nid s') a w:=by
 obtain⟨⟨q0,EC⟩,F8,Gj,IB,BM⟩:=hr;have BG:Sub j (j.putS nid s'):=Sub.putS (h.nor nid IB);have rows:∀b r',((F.rw1 (old,ZA q)).rw1 (nid,ZA r)).row b=ZA (ZA r')->(b=nid/\r'=r)\/(b≠nid/\b=old/\r'=q)\/(b≠nid/\b≠old/\F.row b=ZA (ZA r')):=by
  intro b r' hF;simp only[Fz.rw1]at hF;split at hF
  .exact XB
  .rename_i e;split at hF
   next e'=>exact .inr (.inl ⟨e,e',by simpa using hF.symm⟩)
   next e'=>exact .inr (.inr ⟨e,e',hF⟩)
 have Cp:(j.putS nid s').s nid=ZA s':=by simp[J.putS]
 have Bn:∀b,b≠nid->(j.putS nid s').s b=j.s b:=fun b e=>by simp[J.putS,e]
 show Rel U n X W0 fb ((F.rw1 (old,ZA q)).rw1 (nid,ZA r)) (j.putS nid s') a w;refine⟨h.defers,h.size,fun t ht=> ?_,fun i v hi=>(h.sav i v hi).imp _root_.id (V.den_sub BG),fun b cs ty hF=> ?_,h.nob,h.inj,fun b r' hF=> ?_,fun b hF=> ?_,fun b b' k r' s1 h1 h2 h3 h4=> ?_,fun b b' r1 r2 s1 s2 k h1 h2 h3 h4 h5 h6 h7=> ?_,fun b cs hF=> ?_,h.ext,h.gs.step rfl rfl (fun b hF=> ?_) (fun _ _ _=>rfl) (fun _ _ h=>.inl h) (fun b r' s1 h1 h2=> ?_) (fun b r' s1 h1 h2=> ?_) (fun b r' s1 h1 hk h2=> ?_)⟩
 .obtain⟨v,h1,h2⟩:=h.tmp t ht;exact⟨v,h1,h2.imp _root_.id (V.den_sub BG)⟩
 .obtain⟨k,vs,h1,h2,h3,h4⟩:=h.box b cs ty hF;exact⟨k,vs,h1,h2,bH BG h3,h4⟩
 .rcases rows b r' hF with⟨rfl,rfl⟩|⟨e1,rfl,rfl⟩|⟨e1,e2,Bx⟩
  .exact YN
  .exact⟨s,by rw[Bn _ e1];exact hs,hq⟩
  .rw[Bn b e1];exact h.row b r' Bx
 .simp only[Fz.rw1]at hF;split at hF
  .exact XW
  .rename_i e;split at hF
   .exact XW
   .exact YF
 .have Hr:j.b b=ZA k:=h1;rcases rows b' r' h2 with⟨rfl,rfl⟩|⟨e1,rfl,rfl⟩|⟨e1,e2,Bx⟩
  .rw[Cp]at h3;cases h3;exact h.sep b old k q0 s Hr EC hs (bN (DV k (by rw[Gj]at h4;exact h4)))
  .rw[Bn _ e1,hs]at h3;cases h3;exact h.sep b _ k q0 s Hr EC hs (bN (by rw[F8]at h4;exact h4))
  .rw[Bn b' e1]at h3;exact h.sep b b' k r' s1 Hr Bx h3 h4
 .rcases rows b r1 h1 with⟨rfl,rfl⟩|⟨e1,rfl,rfl⟩|⟨e1,e2,HI⟩
  .rw[Gj]at h2;cases h2
  .rw[F8]at h2;cases h2
  .rw[Bn b e1]at h4;rcases rows b' r2 h3 with⟨rfl,rfl⟩|⟨e3,rfl,rfl⟩|⟨e3,e4,Jc⟩
   .rw[Cp]at h5;cases h5;exact ai (h.rsep b old r1 q0 s1 s k HI h2 EC h4 hs h6 (bN (DV k (by rw[Gj]at h7;exact h7)))) e2
   .rw[Bn _ e3,hs]at h5;cases h5;exact h.rsep b _ r1 q0 s1 s k HI h2 EC h4 hs h6 (bN (by rw[F8]at h7;exact h7))
   .rw[Bn b' e3]at h5;exact h.rsep b b' r1 r2 s1 s2 k HI h2 Jc h4 h5 h6 h7
 .obtain⟨k,vs,h1,h2,h3,h4⟩:=h.fb b cs hF;exact⟨k,vs,h1,h2,bH BG h3,h4⟩
 .simp only[Fz.rw1]at hF;split at hF
  .exact XW
  .split at hF
   .exact XW
   .exact hF
 .rcases rows b r' h1 with⟨rfl,rfl⟩|⟨e1,rfl,rfl⟩|⟨e1,e2,Bx⟩
  .rw[Cp]at h2;cases h2;exact .inl ⟨old,q0,s,EC,hs,fun e=>(by rw[Gj]at e;cases e),fun k hk=>.inl (bN (DV k (by rw[Gj]at hk;exact hk)))⟩
  .rw[Bn _ e1,hs]at h2;cases h2;exact .inl ⟨_,q0,s,EC,hs,fun e=>(by rw[F8]at e;cases e),fun k hk=>.inl (bN (by rw[F8]at hk;exact hk))⟩
  .rw[Bn b e1]at h2;exact .inl ⟨b,r',s1,Bx,h2,fun h=>h,fun _ h=>.inl h⟩
 .rcases rows b r' h1 with⟨rfl,rfl⟩|⟨e1,rfl,rfl⟩|⟨e1,e2,Bx⟩
  .rw[Cp]at h2;cases h2;exact IJ
  .rw[Bn _ e1,hs]at h2;cases h2;exact h.gs.ev _ q0 _ EC hs
  .rw[Bn b e1]at h2;exact h.gs.ev b r' s1 Bx h2
 .rcases rows b r' h1 with⟨rfl,rfl⟩|⟨e1,rfl,rfl⟩|⟨e1,e2,Bx⟩
  .exact ai hk OL
  .exact ai hk Gz
  .rw[Bn b e1]at h2;exact(h.gs.tb b r' s1 Bx hk h2).mono rfl rfl (fun _ _ _ hz=>hz) (fun _ _=>rfl)
def aas(j:J)(l:Nat)(x:Option Obj):Sub j (j.setz l x):=⟨fun _ _ h=>h,fun _ _ h=>h,fun _ _ h=>h,fun _ _ h=>h⟩
def aau(j:J)(z:List (Nat×Obj)):Sub j (j.addz z):=by
 cases z with
 |nil=>exact .refl j
 |cons p z=>exact aas _ _ _
def aje(j:J)(z:List (Nat×Obj)):(j.addz z).s=j.s/\(j.addz z).b=j.b/\(j.addz z).f=j.f/\(j.addz z).g.y=j.g.y:=by cases z<;>exact⟨rfl,rfl,rfl,rfl⟩
def sM(hl:z.length<=1){o:Obj}(h:(j.addz z).g.z k=ZA o):(k,o)∈z\/((∀p∈z,p.1≠k)/\j.g.z k=ZA o):=by
 match z,hl with
 |[],_=>exact .inr ⟨fun p hp=>Ym,h⟩
 |[p],_=>
   simp only[J.addz,J.setz,Gh.setz]at h;by_cases e:k=p.1
   .rw[ae e]at h;cases h;exact .inl (by rw[e];exact bW)
   .rw[aa e]at h;exact .inr ⟨fun q hq=>by rw[dA.1 hq];exact fun h=>e h.symm,h⟩
def alW(hl:z.length<=1){p:Nat×Obj}(hp:p∈z):(j.addz z).g.z p.1=ZA p.2:=by
 match z,hl with
 |[q],_=>rw[dA.1 hp];simp[J.addz,J.setz,Gh.setz]
def dj(hl:z.length<=1)(hk:∀p∈z,p.1≠k):(j.addz z).g.z k=j.g.z k:=by
 match z,hl with
 |[],_=>rfl
 |[q],_=>have:=hk q bW;simp only[J.addz,J.setz,Gh.setz];rw[aa (fun e=>this e.symm)]
def Rel.frz(h:Rel U n X W0 fb F j a w)(hr:Gb F nid (.frz old q r))(hx:Ext w w')(hs:j.s old=ZA s)(hq:RowOk U W0.heap.size w s q)(Aj:RowOk U W0.heap.size w' s' r)(Km:∀k,s'.v.ownBlock=ZA k->w.heap.size<=k)(hl:s'.z.length<=1)(hz:∀p∈s'.z,w.heap[p.1]? =ZA p.2/\Cg p.2=ZB/\s.v.ownBlock=ZA p.1)(Gz:q.kd≠.tab)(OL:r.kd≠.tab):
  Rel U n X W0 fb (F.rws (RE.rs nid (.frz old q r))) ((j.putS nid s').addz s'.z) a w':=by
 obtain⟨⟨q0,EC,ED⟩,F8,Gj,IB,BM⟩:=hr;have h':=h.more hx;obtain⟨f1,f2,f3,f4⟩:=aje (j.putS nid s') s'.z;have BG:Sub j ((j.putS nid s').addz s'.z):=(Sub.putS (h.nor nid IB)).trans (aau _ _);have rows:∀b r',((F.rw1 (old,ZA q)).rw1 (nid,ZA r)).row b=ZA (ZA r')->(b=nid/\r'=r)\/(b≠nid/\b=old/\r'=q)\/(b≠nid/\b≠old/\F.row b=ZA (ZA r')):=by
  intro b r' hF;simp only[Fz.rw1]at hF;split at hF
  .exact XB
  .rename_i e;split at hF
   next e'=>exact .inr (.inl ⟨e,e',by simpa using hF.symm⟩)
   next e'=>exact .inr (.inr ⟨e,e',hF⟩)
 have Cp:((j.putS nid s').addz s'.z).s nid=ZA s':=by rw[f1];simp[J.putS]
 have Bn:∀b,b≠nid->((j.putS nid s').addz s'.z).s b=j.s b:=fun b e=>by rw[f1];simp[J.putS,e]
 obtain⟨s0,g1,g2⟩:=h.row old q0 EC;rw[hs]at g1;cases g1;have HG:∀k,s'.blk r.own=ZA k->w.heap.size<=k:=fun k hk=>Km k (ay hk);have I8:∀p∈s'.z,s.blk q0.own=ZA p.1:=fun p hp=>mY ED (hz p hp).2.2;have DY:∀k o,j.g.z k=ZA o->∀p∈s'.z,p.1≠k:=fun k o hk p hp e=>h.gs.row k o old q0 s hk EC hs (.inl ED) (by rw[<-e];exact I8 p hp);have Jq:∀b r s k,F.row b=ZA (ZA r)->j.s b=ZA s->s.blk r.own=ZA k->k<w.heap.size:=fun b r s k hF hs hk=>by obtain⟨s',h1,h2⟩:=h.row b r hF;rw[hs]at h1;cases h1;exact h2.lt k hk
 show Rel U n X W0 fb ((F.rw1 (old,ZA q)).rw1 (nid,ZA r)) ((j.putS nid s').addz s'.z) a w';refine⟨h.defers,h.size,fun t ht=> ?_,fun i v hi=>(h.sav i v hi).imp _root_.id (V.den_sub BG),fun b cs ty hF=> ?_,fun b hF=>by rw[f2];exact h.nob b hF,fun b b' k h1 h2=>by rw[f2]at h1 h2;exact h.inj b b' k h1 h2,fun b r' hF=> ?_,fun b hF=> ?_,fun b b' k r' s1 h1 h2 h3 h4=> ?_,fun b b' r1 r2 s1 s2 k h1 h2 h3 h4 h5 h6 h7=> ?_,fun b cs hF=> ?_,h'.ext,⟨fun k o hk=> ?_,fun k o b hk e=> ?_,fun k o b r' s1 hk hF CH hc e=> ?_,fun D hD=> ?_,h.gs.nd,fun i y hy=> ?_,fun i hF hy=> ?_,fun b r' s1 h1 h2=> ?_,fun b r' s1 h1 hk h2=> ?_⟩⟩
 .obtain⟨v,h1,h2⟩:=h.tmp t ht;exact⟨v,h1,h2.imp _root_.id (V.den_sub BG)⟩
 .obtain⟨k,vs,h1,h2,h3,h4⟩:=h'.box b cs ty hF;exact⟨k,vs,by rw[f2];exact h1,h2,bH BG h3,h4⟩
 .rcases rows b r' hF with⟨rfl,rfl⟩|⟨e1,rfl,rfl⟩|⟨e1,e2,Bx⟩
  .exact YN
  .refine⟨s,by rw[Bn _ e1];exact hs,hq.kept hx.size (fun k hk=>hx.block k (hq.lt k hk))⟩
  .rw[Bn b e1];exact h'.row b r' Bx
 .simp only[Fz.rw1]at hF;split at hF
  .exact XW
  .rename_i e;split at hF
   .exact XW
   .exact YF
 .rw[f2]at h1;obtain⟨_,_,_,_,_,_,_,As⟩:=h.lt h1;rcases rows b' r' h2 with⟨rfl,rfl⟩|⟨e1,rfl,rfl⟩|⟨e1,e2,Bx⟩
  .rw[Cp]at h3;cases h3;have:=HG k h4;omega
  .rw[Bn _ e1,hs]at h3;cases h3;exact h.sep b _ k q0 s h1 EC hs (bN (by rw[F8]at h4;exact h4))
  .rw[Bn b' e1]at h3;exact h.sep b b' k r' s1 h1 Bx h3 h4
 .rcases rows b r1 h1 with⟨rfl,rfl⟩|⟨e1,rfl,rfl⟩|⟨e1,e2,HI⟩
  .rw[Cp]at h4;cases h4;have hk:=HG k h6;rcases rows b' r2 h3 with⟨rfl,rfl⟩|⟨e3,rfl,rfl⟩|⟨e3,e4,Jc⟩
   .rfl
   .rw[Bn _ e3,hs]at h5;cases h5;have:=hq.lt k h7;omega
   .rw[Bn b' e3]at h5;have:=Jq b' r2 s2 k Jc h5 h7;omega
  .rw[F8]at h2;cases h2
  .rw[Bn b e1]at h4;rcases rows b' r2 h3 with⟨rfl,rfl⟩|⟨e3,rfl,rfl⟩|⟨e3,e4,Jc⟩
   .rw[Cp]at h5;cases h5;have:=HG k h7;have:=Jq b r1 s1 k HI h4 h6;omega
   .rw[Bn _ e3,hs]at h5;cases h5;exact h.rsep b _ r1 q0 s1 s k HI h2 EC h4 hs h6 (bN (by rw[F8]at h7;exact h7))
   .rw[Bn b' e3]at h5;exact h.rsep b b' r1 r2 s1 s2 k HI h2 Jc h4 h5 h6 h7
 .obtain⟨k,vs,h1,h2,h3,h4⟩:=h'.fb b cs hF;exact⟨k,vs,by rw[f3];exact h1,h2,bH BG h3,h4⟩
 .rcases sM hl hk with h1|⟨h1,h2⟩
  .obtain⟨z1,z2,z3⟩:=hz _ h1;have As:=(ig.1 z1).1;exact⟨(hx.block k As).trans z1,fun _=>(g2.owned ED k z3).2⟩
  .exact h'.gs.at' k o h2
 .rw[f2]at e;rcases sM hl hk with h1|⟨h1,h2⟩
  .exact h.sep b old k q0 s e EC hs (I8 _ h1)
  .exact h.gs.box k o b h2 e
 .rcases sM hl hk with h1|⟨h1,h2⟩
  .obtain⟨z1,z2,z3⟩:=hz _ h1;have AL:r'.own=ZB:=by
    rcases hc with hc|hc
    .exact hc
    .rw[z2]at hc;cases hc
   have As:=(ig.1 z1).1;rcases rows b r' hF with⟨rfl,rfl⟩|⟨e1,rfl,rfl⟩|⟨e1,e2,Bx⟩
   .rw[Cp]at CH;cases CH;have:=HG k e;omega
   .rw[F8]at AL;cases AL
   .rw[Bn b e1]at CH;exact e2 (h.rsep old b q0 r' s s1 k EC ED Bx hs CH (I8 _ h1) e).symm
  .have As:=h.gs.lt h2;rcases rows b r' hF with⟨rfl,rfl⟩|⟨e1,rfl,rfl⟩|⟨e1,e2,Bx⟩
   .rw[Cp]at CH;cases CH;have:=HG k e;omega
   .rw[Bn _ e1,hs]at CH;cases CH;exact h.gs.row k o _ q0 s h2 EC hs (.inl ED) (bN (by rw[F8]at e;exact e))
   .rw[Bn b e1]at CH;exact h.gs.row k o b r' s1 h2 Bx CH hc e
 .have h1:=h.gs.md D hD;rw[dj hl (DY D _ h1)];exact h1
 .obtain⟨rf,o,h1,h2,h3,h4⟩:=h.gs.lp i y hy;exact⟨rf,o,h1,by rw[f4];exact h2,by rw[dj hl (DY _ _ h3)];exact h3,h4⟩
 .rw[f4];refine h.gs.nol i ?_ hy;simp only[Fz.rw1]at hF;split at hF
  .exact XW
  .split at hF
   .exact XW
   .exact hF
 .intro p hp;rcases rows b r' h1 with⟨rfl,rfl⟩|⟨e1,rfl,rfl⟩|⟨e1,e2,Bx⟩
  .rw[Cp]at h2;cases h2;exact⟨alW hl hp,(hz p hp).2.1⟩
  .rw[Bn _ e1,hs]at h2;cases h2;obtain⟨z1,z2⟩:=h.gs.ev _ q0 s EC hs p hp;exact⟨by rw[dj hl (DY _ _ z1)];exact z1,z2⟩
  .rw[Bn b e1]at h2;obtain⟨z1,z2⟩:=h.gs.ev b r' s1 Bx h2 p hp;exact⟨by rw[dj hl (DY _ _ z1)];exact z1,z2⟩
 .rcases rows b r' h1 with⟨rfl,rfl⟩|⟨e1,rfl,rfl⟩|⟨e1,e2,Bx⟩
  .exact ai hk OL
  .exact ai hk Gz
  .rw[Bn b e1]at h2;exact(h.gs.tb b r' s1 Bx hk h2).mono rfl rfl (fun k o _ hz=>by rw[dj hl (DY k o hz)];exact hz) (fun g ha=>hx.block g (h.tabBlk Bx hk h2 ha).2)
def Rel.peek(h:Rel U n X W0 fb F j a w)(hr:Gb F nid (.peek r))(Aj:RowOk U W0.heap.size w s' r)(DV:∀k,s'.blk ZC=ZA k->∃o,j.g.z k=ZA o/\Cg o=ZB)(hz:s'.z=[])(OL:r.kd≠.tab):
  Rel U n X W0 fb (F.rws (RE.rs nid (.peek r))) (j.putS nid s') a w:=by
 obtain⟨Gj,IB⟩:=hr;have BG:Sub j (j.putS nid s'):=Sub.putS (h.nor nid IB);have rows:∀b r',(F.rw1 (nid,ZA r)).row b=ZA (ZA r')->(b=nid/\r'=r)\/(b≠nid/\F.row b=ZA (ZA r')):=by
  intro b r' hF;simp only[Fz.rw1]at hF;split at hF
  .exact XB
  next e=>exact .inr ⟨e,hF⟩
 have Cp:(j.putS nid s').s nid=ZA s':=by simp[J.putS]
 have Bn:∀b,b≠nid->(j.putS nid s').s b=j.s b:=fun b e=>by simp[J.putS,e]
 show Rel U n X W0 fb (F.rw1 (nid,ZA r)) (j.putS nid s') a w;refine⟨h.defers,h.size,fun t ht=> ?_,fun i v hi=>(h.sav i v hi).imp _root_.id (V.den_sub BG),fun b cs ty hF=> ?_,h.nob,h.inj,fun b r' hF=> ?_,fun b hF=> ?_,fun b b' k r' s1 h1 h2 h3 h4=> ?_,fun b b' r1 r2 s1 s2 k h1 h2 h3 h4 h5 h6 h7=> ?_,fun b cs hF=> ?_,h.ext,⟨h.gs.at',h.gs.box,fun k o b r' s1 hk hF CH hc e=> ?_,h.gs.md,h.gs.nd,h.gs.lp,fun i hF hy=> ?_,fun b r' s1 h1 h2=> ?_,fun b r' s1 h1 hk h2=> ?_⟩⟩
 .obtain⟨v,h1,h2⟩:=h.tmp t ht;exact⟨v,h1,h2.imp _root_.id (V.den_sub BG)⟩
 .obtain⟨k,vs,h1,h2,h3,h4⟩:=h.box b cs ty hF;exact⟨k,vs,h1,h2,bH BG h3,h4⟩
 .rcases rows b r' hF with⟨rfl,rfl⟩|⟨e1,Bx⟩
  .exact YN
  .rw[Bn b e1];exact h.row b r' Bx
 .simp only[Fz.rw1]at hF;split at hF
  .exact XW
  next e=>rw[Bn b e];exact h.nor b hF
 .have Hr:j.b b=ZA k:=h1;rcases rows b' r' h2 with⟨rfl,rfl⟩|⟨e1,Bx⟩
  .rw[Cp]at h3;cases h3;rw[Gj]at h4;obtain⟨o,z1,_⟩:=DV k h4;exact h.gs.box k o b z1 Hr
  .rw[Bn b' e1]at h3;exact h.sep b b' k r' s1 Hr Bx h3 h4
 .rcases rows b r1 h1 with⟨rfl,rfl⟩|⟨e1,HI⟩
  .rw[Gj]at h2;cases h2
  .rw[Bn b e1]at h4;rcases rows b' r2 h3 with⟨rfl,rfl⟩|⟨e3,Jc⟩
   .rw[Cp]at h5;cases h5;rw[Gj]at h7;obtain⟨o,z1,_⟩:=DV k h7;exact(h.gs.row k o b r1 s1 z1 HI h4 (.inl h2) h6).elim
   .rw[Bn b' e3]at h5;exact h.rsep b b' r1 r2 s1 s2 k HI h2 Jc h4 h5 h6 h7
 .obtain⟨k,vs,h1,h2,h3,h4⟩:=h.fb b cs hF;exact⟨k,vs,h1,h2,bH BG h3,h4⟩
 .rcases rows b r' hF with⟨rfl,rfl⟩|⟨e1,Bx⟩
  .rw[Cp]at CH;cases CH;rw[Gj]at hc e;obtain⟨o',z1,z2⟩:=DV k e;rw[show(j.putS _ _).g.z=j.g.z from rfl,z1]at hk;cases hk;rcases hc with hc|hc
   .cases hc
   .rw[z2]at hc;cases hc
  .rw[Bn b e1]at CH;exact h.gs.row k o b r' s1 hk Bx CH hc e
 .refine h.gs.nol i ?_ hy;simp only[Fz.rw1]at hF;split at hF
  .exact XW
  .exact hF
 .rcases rows b r' h1 with⟨rfl,rfl⟩|⟨e1,Bx⟩
  .rw[Cp]at h2;cases h2;exact Zin.nil hz
  .rw[Bn b e1]at h2;exact h.gs.ev b r' s1 Bx h2
 .rcases rows b r' h1 with⟨rfl,rfl⟩|⟨e1,Bx⟩
  .exact ai hk OL
  .rw[Bn b e1]at h2;exact(h.gs.tb b r' s1 Bx hk h2).mono rfl rfl (fun _ _ _ hz=>hz) (fun _ _=>rfl)
def Rel.fix(h:Rel U n X W0 fb F j a w){o:Obj}{q0:RowOb}(EC:F.row old=ZA (ZA q0))(ED:q0.own=ZB)(F8:q.own=ZC)(hs:j.s old=ZA s)(hq:RowOk U W0.heap.size w s q)(hk:s.v.ownBlock=ZA k)(ho:w.heap[k]? =ZA o)(CY:Cg o=ZB)(Gz:q.kd≠.tab):
  Rel U n X W0 fb (F.rw1 (old,ZA q)) (j.addz [(k,o)]) a w:=by
 obtain⟨f1,f2,f3,f4⟩:=aje j [(k,o)];have hl:[(k,o)].length<=1:=ZK _;have BG:Sub j (j.addz [(k,o)]):=aau _ _;have rows:∀b r',(F.rw1 (old,ZA q)).row b=ZA (ZA r')->(b=old/\r'=q)\/(b≠old/\F.row b=ZA (ZA r')):=by
  intro b r' hF;simp only[Fz.rw1]at hF;split at hF
  .exact XB
  next e=>exact .inr ⟨e,hF⟩
 obtain⟨s0,g1,g2⟩:=h.row old q0 EC;rw[hs]at g1;cases g1;have I8:s.blk q0.own=ZA k:=mY ED hk;have DY:∀k' o',j.g.z k'=ZA o'->∀p∈[(k,o)],p.1≠k':=fun k' o' B2 p hp e=>h.gs.row k' o' old q0 s B2 EC hs (.inl ED) (by rw[dA.1 hp]at e;rw[<-e];exact I8);refine⟨h.defers,h.size,fun t ht=> ?_,fun i v hi=>(h.sav i v hi).imp _root_.id (V.den_sub BG),fun b cs ty hF=> ?_,fun b hF=>by rw[f2];exact h.nob b hF,fun b b' k h1 h2=>by rw[f2]at h1 h2;exact h.inj b b' k h1 h2,fun b r' hF=> ?_,fun b hF=> ?_,fun b b' k' r' s1 h1 h2 h3 h4=> ?_,fun b b' r1 r2 s1 s2 k' h1 h2 h3 h4 h5 h6 h7=> ?_,fun b cs hF=> ?_,h.ext,⟨fun k' o' B2=> ?_,fun k' o' b B2 e=> ?_,fun k' o' b r' s1 B2 hF CH hc e=> ?_,fun D hD=> ?_,h.gs.nd,fun i y hy=> ?_,fun i hF hy=> ?_,fun b r' s1 h1 h2=> ?_,fun b r' s1 h1 hkt h2=> ?_⟩⟩
 .obtain⟨v,h1,h2⟩:=h.tmp t ht;exact⟨v,h1,h2.imp _root_.id (V.den_sub BG)⟩
 .obtain⟨k',vs,h1,h2,h3,h4⟩:=h.box b cs ty hF;exact⟨k',vs,by rw[f2];exact h1,h2,bH BG h3,h4⟩
 .rw[f1];rcases rows b r' hF with⟨rfl,rfl⟩|⟨e1,Bx⟩
  .exact⟨s,hs,hq⟩
  .exact h.row b r' Bx
 .rw[f1];simp only[Fz.rw1]at hF;split at hF
  .exact XW
  .exact h.nor b hF
 .rw[f2]at h1;rw[f1]at h3;rcases rows b' r' h2 with⟨rfl,rfl⟩|⟨e1,Bx⟩
  .rw[hs]at h3;cases h3;exact h.sep b _ k' q0 s h1 EC hs (bN (by rw[F8]at h4;exact h4))
  .exact h.sep b b' k' r' s1 h1 Bx h3 h4
 .rw[f1]at h4 h5;rcases rows b r1 h1 with⟨rfl,rfl⟩|⟨e1,HI⟩
  .rw[F8]at h2;cases h2
  .rcases rows b' r2 h3 with⟨rfl,rfl⟩|⟨e3,Jc⟩
   .rw[hs]at h5;cases h5;exact h.rsep b _ r1 q0 s1 s k' HI h2 EC h4 hs h6 (bN (by rw[F8]at h7;exact h7))
   .exact h.rsep b b' r1 r2 s1 s2 k' HI h2 Jc h4 h5 h6 h7
 .obtain⟨k',vs,h1,h2,h3,h4⟩:=h.fb b cs hF;exact⟨k',vs,by rw[f3];exact h1,h2,bH BG h3,h4⟩
 .rcases sM hl B2 with h1|⟨h1,h2⟩
  .cases dA.1 h1;exact⟨ho,fun _=>(g2.owned ED k hk).2⟩
  .exact h.gs.at' k' o' h2
 .rw[f2]at e;rcases sM hl B2 with h1|⟨h1,h2⟩
  .cases dA.1 h1;exact h.sep b old k q0 s e EC hs I8
  .exact h.gs.box k' o' b h2 e
 .rw[f1]at CH;rcases sM hl B2 with h1|⟨h1,h2⟩
  .cases dA.1 h1;have AL:r'.own=ZB:=by
    rcases hc with hc|hc
    .exact hc
    .rw[CY]at hc;cases hc
   rcases rows b r' hF with⟨rfl,rfl⟩|⟨e1,Bx⟩
   .rw[F8]at AL;cases AL
   .exact e1 (h.rsep old b q0 r' s s1 k EC ED Bx hs CH I8 e).symm
  .rcases rows b r' hF with⟨rfl,rfl⟩|⟨e1,Bx⟩
   .rw[hs]at CH;cases CH;exact h.gs.row k' o' _ q0 s h2 EC hs (.inl ED) (bN (by rw[F8]at e;exact e))
   .exact h.gs.row k' o' b r' s1 h2 Bx CH hc e
 .have h1:=h.gs.md D hD;rw[dj hl (DY D _ h1)];exact h1
 .obtain⟨rf,o',h1,h2,h3,h4⟩:=h.gs.lp i y hy;exact⟨rf,o',h1,by rw[f4];exact h2,by rw[dj hl (DY _ _ h3)];exact h3,h4⟩
 .rw[f4];refine h.gs.nol i ?_ hy;simp only[Fz.rw1]at hF;split at hF
  .exact XW
  .exact hF
 .intro p hp;rw[f1]at h2;rcases rows b r' h1 with⟨rfl,rfl⟩|⟨e1,Bx⟩
  .rw[hs]at h2;cases h2;obtain⟨z1,z2⟩:=h.gs.ev _ q0 s EC hs p hp;exact⟨by rw[dj hl (DY _ _ z1)];exact z1,z2⟩
  .obtain⟨z1,z2⟩:=h.gs.ev b r' s1 Bx h2 p hp;exact⟨by rw[dj hl (DY _ _ z1)];exact z1,z2⟩
 .rw[f1]at h2;rcases rows b r' h1 with⟨rfl,rfl⟩|⟨e1,Bx⟩
  .exact ai hkt Gz
  .exact(h.gs.tb b r' s1 Bx hkt h2).mono rfl rfl (fun k' o' _ hz=>by rw[dj hl (DY k' o' hz)];exact hz) (fun _ _=>rfl)
def Rel.tset(h:Rel U n X W0 fb F j a w){tab:Nat}{o:Obj}{st:SV}(hr:Gb F nid (.tset old q tab r))(hs:j.s old=ZA s)(EE:j.s tab=ZA st)(hq:RowOk U W0.heap.size w s q)(Aj:RowOk U W0.heap.size w' st r)(hk:s.v.ownBlock=ZA k)(ho:w.heap[k]? =ZA o)(CY:Cg o=ZB)(hg:w.grownBy w' st.v.ownBlock)(ht:TbAt U (j.addz [(k,o)]) w' st r)(Gz:q.kd≠.tab):
  Rel U n X W0 fb (F.rws (RE.rs nid (.tset old q tab r))) (j.addz [(k,o)]) a w':=by
 obtain⟨⟨q0,EC,ED⟩,F8,⟨r0,GR,hr0o⟩,Gj,BM⟩:=hr;have h1:=h.fix EC ED F8 hs hq hk ho CY Gz;exact h1.set (r:=r) ⟨⟨r0,by simp only[Fz.rw1,aa BM];exact GR,hr0o⟩,Gj⟩ (by rw[(aje j [(k,o)]).1];exact EE) hg Aj (fun _=>ht)
structure Sees(n:Nat)(fb:Nat->Option (List C))(vw:Vw)(o:Oper)(eff:Eff)(F:Fz):Prop where
 ev:∀x∈o.op.operands.toList,∀v,vw.ev x=ZA v->PV F n x=ZA v
 rd:∀p∈eff.rd,∀c,vw.ld p.1 p.2=ZA c->C3 F p.1 p.2=ZA c
 wr:∀p∈eff.wr,∃c,C3 F p.1 p.2.1=ZA c
 nw:eff.al≠ZE->F.box vw.nid=ZE
 rr:∀id∈eff.rr,∀r,vw.rw id=ZA r->Qf F id=ZA r
 re:Gb F vw.nid eff.re
 fb:vw.fb=fb
 one:(eff.al=ZE/\eff.wr=[])\/eff.re=.none
def oT(h:Rel U n X W0 fb F j a w){o:Nat}{c:C}(hc:C3 F b o=ZA c):∃k v,j.b b=ZA k/\c.den U j=ZA v/\w.cell? ⟨k,o,ZE⟩=ZA v/\w.frozen? ⟨k,o,ZE⟩=ZC:=by simp only[C3,de]at hc;obtain⟨x,hx,hc⟩:=hc;obtain⟨cs,ty⟩:=x;obtain⟨k,vs,h1,h2,h3,h4⟩:=h.box b cs ty hx;obtain⟨v,hv,hd⟩:=dP h3 o c hc;exact⟨k,v,h1,hd,by rw[kW h4];exact hv,adk h4⟩
def iQ{F:Fz}{id:Nat}(h:Qf F id=ZA r):F.row id=ZA (ZA r):=by
 unfold Qf at h;cases hF:F.row id with
 |none=>rw[hF]at h;cases h
 |some x=>rw[hF]at h;simp only[Option.bind_some]at h;rw[h]
def apP(h:Rel U n X W0 fb F j a w){vw:Vw}(Aj:OpOk P W0.hw U W0.heap.size vw o eff)(hs:Sees n fb vw o eff F)(hd:∀d,o.dst=ZA d->d<n){K:Act->World->Prop}{Q:Exit->Act->World->Prop}(hK:∀j' a' w',Rel U n X W0 fb (F.app o.dst vw.nid eff) j' a' w'->K a' w'):o.wp P a w K Q:=by
 refine Aj j a w h.ext.size (fun x hx v hv=>h.eval (hs.ev x hx v hv)) (fun p hp c hc=> ?_) (fun p hp=> ?_) (fun id IA r hr=> ?_) ⟨W0.hh w h.ext,fun b cs hb=> ?_⟩ K Q (fun v j' w' hv Dl=> ?_)
 .obtain⟨k,v,h1,h2,h3,_⟩:=oT h (hs.rd p hp c hc);exact⟨k,v,h1,h2,h3⟩
 .obtain⟨c,hc⟩:=hs.wr p hp;obtain⟨k,v,h1,_,h3,h4⟩:=oT h hc;exact⟨k,v,h1,h3,h4⟩
 .obtain⟨s,h1,h2⟩:=h.row id r (iQ (hs.rr id IA r hr));have hz:=h.gs.ev id r s (iQ (hs.rr id IA r hr)) h1;exact⟨s,h1,h2,hz,fun p hp=>(h.gs.at' _ _ (hz p hp).1).1,fun hk=>⟨h.gs.tb id r s (iQ (hs.rr id IA r hr)) hk h1,fun k o hz=>(h.gs.at' k o hz).1⟩⟩
 .rw[hs.fb]at hb;obtain⟨k,vs,h1,h2,h3,h4⟩:=h.fb b cs hb;exact⟨k,vs,h1,nr h2 h.ext.size,h3,h4⟩
 .unfold Nc at Dl;refine hK j' _ w' ?_;unfold Fz.app;refine Rel.put ?_ hv hd;split at Dl
  .rename_i cs ty DK;obtain⟨vs,h1,rfl,rfl⟩:=Dl;have DP:eff.re=.none:=by
    rcases hs.one with e|e
    .rw[DK]at e;cases e.1
    .exact e
   rw[DK,DP];exact h.new h1 (hs.nw (by rw[DK];simp))
  .rename_i DK;rw[DK];have DP:=hs.re;split at Dl
   next hr=>obtain⟨rfl,w1,h1,h2⟩:=Dl;rw[hr];exact(h.more h1).wrs h2
   .rename_i id r hr;have Ca:eff.wr=[]:=by
     rcases hs.one with e|e
     .exact e.2
     .exact X4
    obtain⟨rfl,s,h1,h2,h3,h4⟩:=Dl;rw[hr]at DP;rw[hr,Ca];exact h.set DP h1 h2 h3 (fun e=>ai e h4)
   .rename_i rs hr;have Ca:eff.wr=[]:=by
     rcases hs.one with e|e
     .exact e.2
     .exact X4
    obtain⟨hx,svs,h1,h2,h3,h4,rfl⟩:=Dl;rw[hr]at DP;rw[hr,Ca];exact h.made DP hx h1 h2 h3 h4
   .rename_i old r hr;have Ca:eff.wr=[]:=by
     rcases hs.one with e|e
     .exact e.2
     .exact X4
    obtain⟨s,s',h1,h2,h3,h4,h5,rfl,h6⟩:=Dl;rw[hr]at DP;rw[hr,Ca];exact h.app DP h1 h2 h3 h4 h5 h6
   .rename_i old q r hr;have Ca:eff.wr=[]:=by
     rcases hs.one with e|e
     .exact e.2
     .exact X4
    obtain⟨rfl,s,s',h1,h2,h3,h4,h5,rfl,h6,h7⟩:=Dl;rw[hr]at DP;rw[hr,Ca];exact h.view DP h1 h2 h3 h4 h5 h6 h7
   .rename_i r hr;have Ca:eff.wr=[]:=by
     rcases hs.one with e|e
     .exact e.2
     .exact X4
    obtain⟨rfl,s',h1,h2,h3,rfl,h4⟩:=Dl;rw[hr]at DP;rw[hr,Ca];exact h.peek DP h1 h2 h3 h4
   .rename_i old q r hr;have Ca:eff.wr=[]:=by
     rcases hs.one with e|e
     .exact e.2
     .exact X4
    obtain⟨hx,s,s',h1,h2,h3,h4,h5,h6,rfl,h7,h8⟩:=Dl;rw[hr]at DP;rw[hr,Ca];exact h.frz DP hx h1 h2 h3 h4 h5 h6 h7 h8
   .rename_i old q tab r hr;have Ca:eff.wr=[]:=by
     rcases hs.one with e|e
     .exact e.2
     .exact X4
    obtain⟨s,st,k,o,h1,h2,h3,h4,h5,h6,h7,h8,rfl,h9,JH⟩:=Dl;rw[hr]at DP;rw[hr,Ca];exact h.tset DP h1 h2 h3 h4 h5 h6 h7 h8 h9 JH
end
structure Rec where
 o:Oper
 want:Bool
 nid:Nat
 eff:Eff
def Fz.rec'(F:Fz)(r:Rec):Fz:=F.app r.o.dst r.nid r.eff
def Mq:List Operand->List Nat
 |[]=>[]
 |.tmp t::l=>t::Mq l
 |_::l=>Mq l
def abw{t:Nat}:∀{l:List Operand},.tmp t∈l->t∈Mq l
 |x::l,h=>by
   rcases YS.1 h with rfl|h
   .exact bW
   .have ih:=abw h;cases x with
    |tmp u=>exact cR _ ih
    |_=>exact ih
def gTs(ops:Array Oper)(o:Oper):List Nat:=
 match o.guard with
 |none=>[]
 |some (g,_)=>((ops[g]?).bind (·.dst)).toList
def Rec.ts(ops:Array Oper)(r:Rec):List Nat:=Mq r.o.op.operands.toList++gTs ops r.o
def EA(t:Nat):List Nat->Bool
 |[]=>ZC
 |x::l=>Nat.beq x t||EA t l
def It(b o:Nat):List (Nat×Nat)->Bool
 |[]=>ZC
 |(x,y)::l=>(Nat.beq x b&&Nat.beq y o)||It b o l
def alq{l:List Nat}:EA t l=ZC↔t ∉ l:=by
 induction l with
 |nil=>simp[EA]
 |cons x l ih=>
   simp only[EA,Bool.or_eq_false_iff,ih,YS,not_or];constructor
   .rintro ⟨h1,h2⟩;exact⟨fun e=>by rw[e]at h1;simp at h1,h2⟩
   .rintro ⟨h1,h2⟩;refine⟨?_,h2⟩;cases h:x.beq t
    .rfl
    .exact ai (Ak h).symm h1
def alp{o:Nat}{l:List (Nat×Nat)}:It b o l=ZC↔(b,o) ∉ l:=by
 induction l with
 |nil=>simp[It]
 |cons x l ih=>
   obtain⟨x,y⟩:=x;simp only[It,Bool.or_eq_false_iff,ih,YS,not_or,Bool.and_eq_false_iff];constructor
   .rintro ⟨h1,h2⟩;refine⟨fun e=> ?_,h2⟩;cases e;rcases h1 with h1|h1<;>simp at h1
   .rintro ⟨h1,h2⟩;refine⟨?_,h2⟩;cases h:x.beq b
    .exact .inl rfl
    .cases h':y.beq o
     .exact .inr rfl
     .exact ai (by rw[Ak h,Ak h']) h1
def wrC(l:List (Nat×Nat×C)):List (Nat×Nat):=l.map fun p=>(p.1,p.2.1)
def Rec.rid(r:Rec):List Nat:=(r.eff.re.rs r.nid).map (·.1)
def Rec.touch(r:Rec):List Nat:=r.eff.rd.map (·.1)++r.eff.wr.map (·.1)
def Rec.alid(r:Rec):List Nat:=match r.eff.al with|some _=>[r.nid]|none=>[]
def UL(ops:Array Oper)(r s:Rec):Bool:=
 (r.o.dst.toList.all fun d=>!EA d (s.ts ops) &&!EA d s.o.dst.toList)&&(s.o.dst.toList.all fun d=>!EA d (r.ts ops))&&
 ((wrC r.eff.wr).all fun p=>!It p.1 p.2 s.eff.rd &&!It p.1 p.2 (wrC s.eff.wr))&&((wrC s.eff.wr).all fun p=>!It p.1 p.2 r.eff.rd)&&
 (r.alid.all fun b=>!EA b s.touch &&!EA b s.alid)&&(s.alid.all fun b=>!EA b r.touch)&&
 (r.rid.all fun b=>!EA b s.eff.rr &&!EA b s.rid)&&(s.rid.all fun b=>!EA b r.eff.rr)
structure Indep(ops:Array Oper)(r s:Rec):Prop where
 d1:∀d,r.o.dst=ZA d->d ∉ s.ts ops
 d2:∀d,r.o.dst=ZA d->s.o.dst≠ZA d
 d3:∀d,s.o.dst=ZA d->d ∉ r.ts ops
 w1:∀p∈r.eff.wr,(p.1,p.2.1) ∉ s.eff.rd
 w2:∀p∈r.eff.wr,∀q∈s.eff.wr,(p.1,p.2.1)≠(q.1,q.2.1)
 w3:∀p∈s.eff.wr,(p.1,p.2.1) ∉ r.eff.rd
 a1:r.eff.al≠ZE->r.nid ∉ s.touch
 a2:r.eff.al≠ZE->s.eff.al≠ZE->r.nid≠s.nid
 a3:s.eff.al≠ZE->s.nid ∉ r.touch
 r1:∀b∈r.rid,b ∉ s.eff.rr
 r2:∀b∈r.rid,b ∉ s.rid
 r3:∀b∈s.rid,b ∉ r.eff.rr
def abU{r s:Rec}(h:UL ops r s=ZB):Indep ops r s:=by
 simp only[UL,ne,CB,ZO,alq,alp,Option.mem_toList]at h;obtain⟨⟨⟨⟨⟨⟨⟨h1,h2⟩,h3⟩,h4⟩,h5⟩,h6⟩,h7⟩,h8⟩:=h;have DK:∀{x:Rec},x.eff.al≠ZE->x.nid∈x.alid:=fun {x} hx=>by
  unfold Rec.alid;split
  .simp
  next hn=>exact ai hn hx
 refine⟨fun d hd=>(h1 d hd).1,fun d hd=>(h1 d hd).2,fun d hd=>h2 d hd,fun p hp=>(h3 _ (List.mem_map.2 ⟨p,hp,rfl⟩)).1,fun p hp q hq e=>(h3 _ (List.mem_map.2 ⟨p,hp,rfl⟩)).2 (List.mem_map.2 ⟨q,hq,e.symm⟩),
  fun p hp=>h4 _ (List.mem_map.2 ⟨p,hp,rfl⟩),fun hx=>(h5 _ (DK hx)).1,fun hx hy e=>(h5 _ (DK hx)).2 (e▸DK hy),fun hx=>h6 _ (DK hx),fun b hb=>(h7 b hb).1,fun b hb=>(h7 b hb).2,h8⟩
def Indep.symm{r s:Rec}(h:Indep ops r s):Indep ops s r:=⟨h.d3,fun d hd e=>h.d2 d e hd,h.d1,h.w3,fun p hp q hq e=>h.w2 q hq p hp e.symm,h.w1,h.a3,fun hx hy e=>h.a2 hy hx e.symm,h.a1,h.r3,fun b hb Ex=>h.r2 b Ex hb,h.r1⟩
def xb(F:Fz)(p:Nat×Nat×C)(b o:Nat):C3 (F.wr p) b o=if b=p.1/\o=p.2.1 then(C3 F b o).map (fun _=>p.2.2)else C3 F b o:=by
 unfold C3 Fz.wr;by_cases hb:b=p.1
 .simp only[hb,bm,true_and];cases F.box p.1 with
  |none=>simp
  |some x=>
    simp only[YR,Option.bind_some,em];by_cases ho:o=p.2.1
    .subst ho;simp only[bm];split
     next As=>simp[AH As]
     next As=>simp[cn (Nat.le_of_not_lt As)]
    .rw[aa (fun e:p.2.1=o=>ho e.symm),aa ho]
 .simp[hb]
def mL:∀{l:List (Nat×Nat×C)} {F:Fz} {b o:Nat},(∀p∈l,(p.1,p.2.1)≠(b,o))->C3 (F.wrs l) b o=C3 F b o
 |[],_,_,_,_=>rfl
 |p::l,F,b,o,h=>by have h1:=mL (l:=l) (F:=F.wr p) (b:=b) (o:=o) (fun q hq=>h q (cR _ hq));have h2:=h p bW;show C3 ((F.wr p).wrs l) b o=_;rw[h1,xb,aa (fun e=>h2 (by rw[e.1,e.2]))]
def mM:∀{l:List (Nat×Nat×C)} {F F':Fz} {b o:Nat},C3 F b o=C3 F' b o->C3 (F.wrs l) b o=C3 (F'.wrs l) b o
 |[],_,_,_,_,h=>h
 |p::l,F,F',b,o,h=>by show C3 ((F.wr p).wrs l) b o=C3 ((F'.wr p).wrs l) b o;exact mM (by rw[xb,xb,h])
def gT:∀{l:List (Nat×Nat×C)} {F:Fz} {b o:Nat},(C3 (F.wrs l) b o).isSome=(C3 F b o).isSome
 |[],_,_,_=>rfl
 |p::l,F,b,o=>by have h1:(C3 ((F.wr p).wrs l) b o).isSome=_:=gT (l:=l);show(C3 ((F.wr p).wrs l) b o).isSome=_;rw[h1,xb];split<;>simp
def aqe(F:Fz)(nid:Nat)(x:List C×Nat)(b o:Nat):C3 (F.new nid x) b o=if b=nid then x.1[o]? else C3 F b o:=by unfold C3 Fz.new;by_cases h:b=nid<;>simp[h]
def aqd(F:Fz)(d:Option Nat)(v:V)(b o:Nat):C3 (F.put d v) b o=C3 F b o:=rfl
def oD:∀{l:List (Nat×Nat×C)} {F:Fz} {b:Nat},(F.wrs l).box b=ZE↔F.box b=ZE
 |[],_,_=>Iff.rfl
 |p::l,F,b=>by have h1:((F.wr p).wrs l).box b=ZE↔_:=oD (l:=l);show((F.wr p).wrs l).box b=ZE↔_;rw[h1];unfold Fz.wr;by_cases h:b=p.1<;>simp[h]
structure Agree(ops:Array Oper)(r:Rec)(F F':Fz):Prop where
 t:∀t∈r.ts ops,F.tmp t=F'.tmp t
 rd:∀p∈r.eff.rd,C3 F p.1 p.2=C3 F' p.1 p.2
 wr:∀p∈r.eff.wr,(C3 F p.1 p.2.1).isSome=(C3 F' p.1 p.2.1).isSome
 nw:r.eff.al≠ZE->(F.box r.nid=ZE↔F'.box r.nid=ZE)
 row:∀b∈r.eff.rr++r.rid,F.row b=F'.row b
def yd(F:Fz)(d:Option Nat)(nid:Nat)(eff:Eff)(t:Nat):(F.app d nid eff).tmp t=if d=ZA t then eff.val else F.tmp t:=by
 unfold Fz.app Fz.put;dsimp only;by_cases h:d=ZA t
 .simp[h]
 .simp only[h,eA];rw[(bf _ _).2.1];split
  .rfl
  .have:∀(l:List (Nat×Nat×C)) (F:Fz),(F.wrs l).tmp=F.tmp:=by
    intro l
    induction l with
    |nil=>intro F;rfl
    |cons p l ih=>intro F;exact ih (F.wr p)
   rw[this]
def aqc(F:Fz)(l:List (Nat×Option RowOb))(b o:Nat):C3 (F.rws l) b o=C3 F b o:=by unfold C3;rw[(bf l F).1]
def nP(F:Fz)(d:Option Nat)(nid:Nat)(eff:Eff)(b o:Nat):C3 (F.app d nid eff) b o=match eff.al with|some x=>if b=nid then x.1[o]? else C3 F b o|none=>C3 (F.wrs eff.wr) b o:=by
 unfold Fz.app;rw[aqd,aqc];cases eff.al with
 |some x=>exact aqe F nid x b o
 |none=>rfl
def kC(F:Fz)(d:Option Nat)(nid:Nat)(eff:Eff)(b:Nat):(F.app d nid eff).box b=ZE↔match eff.al with|some _=>b≠nid/\F.box b=ZE|none=>F.box b=ZE:=by
 unfold Fz.app Fz.put;dsimp only;rw[(bf _ _).1];cases eff.al with
 |some x=>unfold Fz.new;by_cases h:b=nid<;>simp[h]
 |none=>exact oD
def WI:∀(l:List (Nat×Nat×C)) (F:Fz),(F.wrs l).lp=F.lp
 |[],F=>rfl
 |p::l,F=>WI l (F.wr p)
def sT:∀(l:List (Nat×Nat×C)) (F:Fz),(F.wrs l).row=F.row
 |[],_=>rfl
 |p::l,F=>sT l (F.wr p)
def iF:∀(l:List (Nat×Option RowOb)) (F:Fz) (b:Nat),b ∉ l.map (·.1)->(F.rws l).row b=F.row b
 |[],_,_,_=>rfl
 |p::l,F,b,h=>by simp only[List.map_cons,YS,not_or]at h;have h1:=iF l (F.rw1 p) b h.2;show((F.rw1 p).rws l).row b=_;rw[h1];simp[Fz.rw1,h.1]
def gf:∀(l:List (Nat×Option RowOb)) (F F':Fz) (b:Nat),F.row b=F'.row b->(F.rws l).row b=(F'.rws l).row b
 |[],_,_,_,h=>h
 |p::l,F,F',b,h=>gf l (F.rw1 p) (F'.rw1 p) b (by simp only[Fz.rw1];split<;>simp_all)
def yM(F:Fz)(d:Option Nat)(nid:Nat)(eff:Eff):(F.app d nid eff).row=(F.rws (eff.re.rs nid)).row:=by
 unfold Fz.app Fz.put;dsimp only;funext b;apply gf;split
 .rfl
 .rw[sT]
def Agree.refl(ops:Array Oper)(r:Rec)(F:Fz):Agree ops r F F:=⟨fun _ _=>rfl,fun _ _=>rfl,fun _ _=>rfl,fun _=>Iff.rfl,fun _ _=>rfl⟩
def Agree.trans{r:Rec}{F F' F'':Fz}(h:Agree ops r F F')(h':Agree ops r F' F''):Agree ops r F F'':=⟨fun t ht=>(h.t t ht).trans (h'.t t ht),fun p hp=>(h.rd p hp).trans (h'.rd p hp),fun p hp=>(h.wr p hp).trans (h'.wr p hp),fun hx=>(h.nw hx).trans (h'.nw hx),fun b hb=>(h.row b hb).trans (h'.row b hb)⟩
def Agree.symm{r:Rec}{F F':Fz}(h:Agree ops r F F'):Agree ops r F' F:=⟨fun t ht=>(h.t t ht).symm,fun p hp=>(h.rd p hp).symm,fun p hp=>(h.wr p hp).symm,fun hx=>(h.nw hx).symm,fun b hb=>(h.row b hb).symm⟩
def Agree.congr{r s:Rec}{F F':Fz}(h:Agree ops r F F'):Agree ops r (F.rec' s) (F'.rec' s):=by
 unfold Fz.rec';refine⟨fun t ht=>by rw[yd,yd,h.t t ht],fun p hp=> ?_,fun p hp=> ?_,fun hx=> ?_,fun b hb=>by rw[yM,yM];exact gf _ _ _ b (h.row b hb)⟩
 .rw[nP,nP];split
  .rw[h.rd p hp]
  .exact mM (h.rd p hp)
 .rw[nP,nP];split
  .split
   .rfl
   .exact h.wr p hp
  .rw[gT,gT];exact h.wr p hp
 .rw[kC,kC];split
  .rw[h.nw hx]
  .exact h.nw hx
def Agree.step{r s:Rec}(hi:Indep ops s r)(F:Fz):Agree ops r F (F.rec' s):=by
 unfold Fz.rec';refine⟨fun t ht=> ?_,fun p hp=> ?_,fun p hp=> ?_,fun hx=> ?_,fun b hb=> ?_⟩
 .rw[yd,aa (fun e=>hi.d1 t e ht)]
 .rw[nP];split
  next x DK=>rw[aa (fun e=>hi.a1 (by rw[DK];simp) (by rw[<-e];exact ZZ _ (List.mem_map.2 ⟨p,hp,rfl⟩)))]
  .exact(mL (fun q hq e=>hi.w1 q hq (by rw[e];exact hp))).symm
 .rw[nP];split
  next x DK=>rw[aa (fun e=>hi.a1 (by rw[DK];simp) (by rw[<-e];exact ZV _ (List.mem_map.2 ⟨p,hp,rfl⟩)))]
  .rw[gT]
 .rw[kC];split
  .rename_i x DK;constructor
   .intro h;exact⟨fun e=>hi.a2 (by rw[DK];simp) hx e.symm,h⟩
   .exact fun h=>h.2
  .exact Iff.rfl
 .rw[yM,iF];intro hm;rcases List.mem_append.1 hb with hb|hb
  .exact hi.r1 b hm hb
  .exact hi.r2 b hm hb
def aou(F:Fz)(p q:Nat×Nat×C)(h:(p.1,p.2.1)≠(q.1,q.2.1)):(F.wr p).wr q=(F.wr q).wr p:=by
 refine Fz.ext' (fun _=>rfl) (fun b=> ?_) (fun _=>rfl) (fun _=>rfl);unfold Fz.wr;dsimp only;by_cases h1:b=p.1
 .by_cases h2:b=q.1
  .have hpq:p.1=q.1:=h1.symm.trans h2;have ho:p.2.1≠q.2.1:=fun e=>h (by rw[hpq,e]);simp only[h1,hpq,bm];cases F.box q.1 with
   |none=>rfl
   |some x=>simp[List.set_comm _ _ ho]
  .simp[h1,h2,show¬p.1=q.1 from fun e=>h2 (h1.trans e)]
 .by_cases h2:b=q.1
  .simp[h1,h2,show¬q.1=p.1 from fun e=>h1 (h2.trans e)]
  .simp[h1,h2]
def al1(p:Nat×Nat×C):∀(l:List (Nat×Nat×C)) (F:Fz),(∀q∈l,(p.1,p.2.1)≠(q.1,q.2.1))->(F.wr p).wrs l=(F.wrs l).wr p
 |[],_,_=>rfl
 |q::l,F,h=>by show((F.wr p).wr q).wrs l=((F.wr q).wrs l).wr p;rw[aou F p q (h q bW)];exact al1 p l (F.wr q) (fun x hx=>h x (cR _ hx))
def adS:∀(l m:List (Nat×Nat×C)) (F:Fz),(∀p∈l,∀q∈m,(p.1,p.2.1)≠(q.1,q.2.1))->(F.wrs l).wrs m=(F.wrs m).wrs l
 |[],_,_,_=>rfl
 |p::l,m,F,h=>by show((F.wr p).wrs l).wrs m=((F.wrs m).wr p).wrs l;rw[adS l m (F.wr p) (fun x hx=>h x (cR _ hx)),al1 p m F (h p bW)]
def yW(nid:Nat)(x:List C×Nat):∀(l:List (Nat×Nat×C)) (F:Fz),(∀q∈l,q.1≠nid)->(F.new nid x).wrs l=(F.wrs l).new nid x
 |[],_,_=>rfl
 |q::l,F,h=>by
   show((F.new nid x).wr q).wrs l=((F.wr q).wrs l).new nid x;have h1:=h q bW;have:(F.new nid x).wr q=(F.wr q).new nid x:=by
    refine Fz.ext' (fun _=>rfl) (fun b=> ?_) (fun _=>rfl) (fun _=>rfl);unfold Fz.wr Fz.new;dsimp only;by_cases hb:b=nid
    .simp[hb,show¬nid=q.1 from fun e=>h1 e.symm]
    .simp[hb]
   rw[this];exact yW nid x l (F.wr q) (fun y hy=>h y (cR _ hy))
def agZ(d:Option Nat)(v:V):∀(l:List (Nat×Nat×C)) (F:Fz),(F.put d v).wrs l=(F.wrs l).put d v
 |[],_=>rfl
 |q::l,F=>agZ d v l (F.wr q)
def yS(d:Option Nat)(v:V):∀(l:List (Nat×Option RowOb)) (F:Fz),(F.put d v).rws l=(F.rws l).put d v
 |[],_=>rfl
 |q::l,F=>yS d v l (F.rw1 q)
def apw(l:List (Nat×Option RowOb))(m:List (Nat×Nat×C))(F:Fz):(F.rws l).wrs m=(F.wrs m).rws l:=by
 refine Fz.ext' (fun t=> ?_) (fun b=> ?_) (fun b=> ?_) (fun b=>by rw[WI,(bf l F).2.2,(bf l _).2.2,WI])
 .have t1:∀(m:List (Nat×Nat×C)) (F:Fz),(F.wrs m).tmp=F.tmp:=by
   intro m
   induction m with
   |nil=>intro F;rfl
   |cons p m ih=>intro F;exact ih (F.wr p)
  rw[t1,(bf l F).2.1,(bf l _).2.1,t1]
 .have b1:∀(m:List (Nat×Nat×C)) (F F':Fz),F.box=F'.box->(F.wrs m).box=(F'.wrs m).box:=by
   intro m
   induction m with
   |nil=>intro F F' h;exact h
   |cons p m ih=>intro F F' h;exact ih _ _ (by simp only[Fz.wr,h])
  rw[(bf l _).1,b1 m (F.rws l) F (bf l F).1]
 .rw[sT];exact gf l F (F.wrs m) b (by rw[sT])
def apy(l:List (Nat×Option RowOb))(nid:Nat)(x:List C×Nat)(F:Fz):(F.rws l).new nid x=(F.new nid x).rws l:=by
 refine Fz.ext' (fun t=> ?_) (fun b=> ?_) (fun b=> ?_) (fun b=>by rw[(bf l _).2.2];exact congrFun (bf l F).2.2 b)
 .rw[(bf l _).2.1];exact congrFun (bf l F).2.1 t
 .rw[(bf l _).1];simp only[Fz.new,(bf l F).1]
 .exact gf l F (F.new nid x) b rfl
def apx:∀(l m:List (Nat×Option RowOb)) (F:Fz),(∀b∈l.map (·.1),b ∉ m.map (·.1))->(F.rws l).rws m=(F.rws m).rws l
 |l,m,F,h=>by
   refine Fz.ext' (fun t=> ?_) (fun b=> ?_) (fun b=> ?_) (fun b=>by rw[(bf m _).2.2,(bf l _).2.2,(bf l _).2.2,(bf m _).2.2])
   .rw[(bf m _).2.1,(bf l _).2.1,(bf l _).2.1,(bf m _).2.1]
   .rw[(bf m _).1,(bf l _).1,(bf l _).1,(bf m _).1]
   .by_cases hl:b∈l.map (·.1)
    .rw[iF m _ b (h b hl)];exact gf l F (F.rws m) b (iF m F b (h b hl)).symm
    .rw[iF l _ b hl];exact gf m (F.rws l) F b (iF l F b hl)
def Rec.bx(r:Rec)(F:Fz):Fz:=match r.eff.al with|some x=>F.new r.nid x|none=>F.wrs r.eff.wr
def TZ(r:Rec)(F:Fz):F.rec' r=((r.bx F).rws (r.eff.re.rs r.nid)).put r.o.dst r.eff.val:=rfl
def ant(r:Rec)(d:Option Nat)(v:V)(F:Fz):r.bx (F.put d v)=(r.bx F).put d v:=by
 unfold Rec.bx;split
 .rfl
 .exact agZ d v _ F
def anr(r:Rec)(l:List (Nat×Option RowOb))(F:Fz):r.bx (F.rws l)=(r.bx F).rws l:=by
 unfold Rec.bx;split
 .exact apy l _ _ F
 .exact apw l _ F
def arh{r s:Rec}(h:Indep ops r s)(F:Fz):s.bx (r.bx F)=r.bx (s.bx F):=by
 unfold Rec.bx;cases hr:r.eff.al with
 |some x=>
   cases hs:s.eff.al with
   |some y=>
     refine Fz.ext' (fun _=>rfl) (fun b=> ?_) (fun _=>rfl) (fun _=>rfl);unfold Fz.new;dsimp only;have BM:=h.a2 (by rw[hr];simp) (by rw[hs];simp);by_cases h1:b=s.nid<;>by_cases h2:b=r.nid<;>simp[h1,h2]
     .exact ai (h2.symm.trans h1) BM
     .intro e;exact ai e.symm BM
     .intro e;exact ai e BM
   |none=>have hq:∀q∈s.eff.wr,q.1≠r.nid:=fun q hq e=>h.a1 (by rw[hr];simp) (by rw[<-e];exact ZV _ (List.mem_map.2 ⟨q,hq,rfl⟩));exact yW _ _ _ F hq
 |none=>
   cases hs:s.eff.al with
   |some y=>have hq:∀q∈r.eff.wr,q.1≠s.nid:=fun q hq e=>h.a3 (by rw[hs];simp) (by rw[<-e];exact ZV _ (List.mem_map.2 ⟨q,hq,rfl⟩));exact(yW _ _ _ F hq).symm
   |none=>exact adS _ _ F h.w2
def abn{r s:Rec}(h:Indep ops r s)(F:Fz):(F.rec' r).rec' s=(F.rec' s).rec' r:=by
 have hp:∀F:Fz,(F.put r.o.dst r.eff.val).put s.o.dst s.eff.val=(F.put s.o.dst s.eff.val).put r.o.dst r.eff.val:=by intro F;refine Fz.ext' (fun t=> ?_) (fun _=>rfl) (fun _=>rfl) (fun _=>rfl);unfold Fz.put;dsimp only;by_cases h1:s.o.dst=ZA t<;>by_cases h2:r.o.dst=ZA t<;>simp[h1,h2];exact ai h1 (h.d2 t h2)
 rw[TZ s,TZ r,TZ r,TZ s,ant,anr,yS,hp,arh h,apx _ _ _ (fun b hb=>h.r2 b hb),ant,anr,yS]
open Go
section
variable {P:Program}{U:Env}{n:Nat}{X:List Value}{W0:Wb}{fb:Nat->Option (List C)}{F:Fz}{j:J}{a:Act}{w:World}
def Fz.setl(F:Fz)(id:Nat)(x:Option Lp):Fz:={F with lp:=fun b=>if b=id then x else F.lp b}
def Fz.endl(F:Fz)(id:Nat):Fz:={F with lp:=fun b=>if b=id then ZE else F.lp b,row:=fun b=>if b=id then ZA ZE else F.row b}
def ail(w:World)(l:Nat)(o:Obj):w.grownBy (w.putObj l o) (ZA l):=⟨rfl,rfl,rfl,by simp,fun k _ hk=>World.putObj_heap_other (fun e=>hk (by rw[e]))⟩
def Rel.putz(h:Rel U n X W0 fb F j a w){l:Nat}{o:Obj}(hz:j.g.z l=ZA o)(ho:Cg o=ZC)(o':Obj)(x:Option Obj){F':Fz}{rf:Option Rf}(ht:F'.tmp=F.tmp)(hbx:F'.box=F.box)(EU:∀b r,F'.row b=ZA (ZA r)->F.row b=ZA (ZA r))(hrn:∀b,F'.row b=ZE->F.row b=ZE)
  {M:List Nat} {top:Bool} (Br:a.defers=({W0 with M:=M,top:=top,rf:=rf}:Wb).ds) (hM:∀D∈M,D∈W0.M/\D≠l) (E1:M.Nodup) (hx:∀y,x=ZA y->y=o')
  (hlp:∀id y,F'.lp id=ZA y->∃r o,rf=ZA r/\j.g.y id=ZA r.l/\(j.setz l x).g.z r.l=ZA (.loop o)/\LoopIs r y o) (hnol:∀id,F'.row id=ZE->F'.lp id=ZE->j.g.y id=ZE):
  Rel U n X {W0 with M:=M,top:=top,rf:=rf} fb F' (j.setz l x) a (w.putObj l o'):=by
 have hs:=aas j l x;obtain⟨FZ,OE⟩:=h.gs.at' l o hz;have HO:=OE ho;have As:=h.gs.lt hz;have DG:∀k,k≠l->(w.putObj l o').heap[k]? =w.heap[k]? :=fun k hk=>World.putObj_heap_other hk;have hext:Ext W0.w (w.putObj l o'):=h.ext.grown' (ail w l o') (fun k hk=>by cases hk;exact HO);refine⟨Br,h.size,fun t ht'=> ?_,fun i v hi=> ?_,fun b cs ty hF=> ?_,fun b hF=> ?_,h.inj,fun b r hF=> ?_,fun b hF=>h.nor b (hrn b hF),fun b b' k r s h1 h2 h3=>h.sep b b' k r s h1 (EU b' r h2) h3,fun b b' r r' s s' k h1 h2 h3=>h.rsep b b' r r' s s' k (EU b r h1) h2 (EU b' r' h3),fun b cs hF=> ?_,hext,⟨fun k o1 hk=> ?_,fun k o1 b hk=> ?_,fun k o1 id r s hk hF Bj hc=> ?_,fun D hD=> ?_,E1,hlp,hnol,fun id r s hF Bj p hp=> ?_,fun id r s hF hk Bj=> ?_⟩⟩
 .obtain⟨v,h1,h2⟩:=h.tmp t ht';exact⟨v,h1,by rw[ht];exact h2.imp id (V.den_sub hs)⟩
 .rw[ht];exact(h.sav i v hi).imp id (V.den_sub hs)
 .rw[hbx]at hF;obtain⟨k,vs,h1,h2,h3,h4⟩:=h.box b cs ty hF;exact⟨k,vs,h1,h2,bH hs h3,by rw[DG k (fun e=>h.gs.box l o b hz (e▸h1))];exact h4⟩
 .rw[hbx]at hF;exact h.nob b hF
 .obtain⟨s,h1,h2⟩:=h.row b r (EU b r hF);exact⟨s,h1,h2.kept (by simp) (fun k hk=>DG k (fun e=>h.gs.row l o b r s hz (EU b r hF) h1 (.inr ho) (e▸hk)))⟩
 .obtain⟨k,vs,h1,h2,h3,h4⟩:=h.fb b cs hF;refine⟨k,vs,h1,h2,bH hs h3,fun o1 v ho1 CH=> ?_⟩;rw[World.cell?_of_block (a:=⟨k,o1,ZE⟩) (DG k (by have:k<W0.heap.size:=h2;omega))];exact h4 o1 v ho1 CH
 .simp only[J.setz,Gh.setz]at hk;by_cases e:k=l
  .subst e;rw[ae rfl]at hk;rw[hx o1 hk];exact⟨World.putObj_heap_same As,fun _=>HO⟩
  .rw[aa e]at hk;rw[DG k e];exact h.gs.at' k o1 hk
 .simp only[J.setz,Gh.setz]at hk;by_cases e:k=l
  .subst e;exact h.gs.box k o b hz
  .rw[aa e]at hk;exact h.gs.box k o1 b hk
 .simp only[J.setz,Gh.setz]at hk;by_cases e:k=l
  .subst e;exact h.gs.row k o id r s hz (EU id r hF) Bj (.inr ho)
  .rw[aa e]at hk;exact h.gs.row k o1 id r s hk (EU id r hF) Bj hc
 .obtain⟨h1,h2⟩:=hM D hD;show(if D=l then x else j.g.z D)=_;rw[aa h2];exact h.gs.md D h1
 .obtain⟨h1,h2⟩:=h.gs.ev id r s (EU id r hF) Bj p hp;refine⟨?_,h2⟩;show(if p.1=l then x else j.g.z p.1)=_;rw[aa (fun e=>by rw[e,hz]at h1;cases h1;rw[ho]at h2;cases h2)];exact h1
 .refine(h.gs.tb id r s (EU id r hF) hk Bj).mono rfl rfl (fun k o1 hc ES=> ?_) (fun g ha=>DG g (fun e=>h.gs.row l o id r s hz (EU id r hF) Bj (.inr ho) (e▸(h.tabBlk (EU id r hF) hk Bj ha).1)));show(if k=l then x else j.g.z k)=_;rw[aa (fun e=>by rw[e,hz]at ES;cases ES;rw[ho]at hc;cases hc)];exact ES
def Rel.lpZ(h:Rel U n X W0 fb F j a w){id:Nat}(hy:F.lp id=ZA y):∃rf o,W0.rf=ZA rf/\j.g.y id=ZA rf.l/\j.g.z rf.l=ZA (.loop o)/\w.heap[rf.l]? =ZA (.loop o)/\LoopIs rf y o/\rf.l ∉ W0.M:=by obtain⟨rf,o,h1,h2,h3,h4⟩:=h.gs.lp id y hy;refine⟨rf,o,h1,h2,h3,(h.gs.at' _ _ h3).1,h4,fun hm=> ?_⟩;have:=h.gs.md _ hm;rw[h3]at this;cases this
def Rel.loopSet(h:Rel U n X W0 fb F j a w){id:Nat}(hy:F.lp id=ZA y)(ID:∀i yi,F.lp i=ZA yi->i=id){rf:Rf}{o:Loop}(HV:W0.rf=ZA rf)(h2:j.g.y id=ZA rf.l)(hz:j.g.z rf.l=ZA (.loop o)){y':Lp}{o':Loop}(hi:LoopIs rf y' o'):
  Rel U n X W0 fb (F.setl id (ZA y')) (j.setz rf.l (ZA (.loop o'))) a (w.putObj rf.l (.loop o')):=by
 have hm:rf.l ∉ W0.M:=fun hm=>by have:=h.gs.md _ hm;rw[hz]at this;cases this
 refine h.putz (F':=F.setl id (ZA y')) (M:=W0.M) (top:=W0.top) (rf:=W0.rf) hz rfl (.loop o') (ZA (.loop o')) rfl rfl (fun _ _ h=>h) (fun _ h=>h) h.defers (fun D hD=>⟨hD,fun e=>hm (e▸hD)⟩) h.gs.nd (fun y e=>(ZN e).symm) (fun i yi Ig=> ?_) (fun i hF hl=> ?_)
 .simp only[Fz.setl]at Ig;by_cases e:i=id
  .rw[ae e]at Ig;cases Ig;refine⟨rf,o',HV,by rw[e];exact h2,by simp[J.setz,Gh.setz],hi⟩
  .rw[aa e]at Ig;exact ai (ID i yi Ig) e
 .simp only[Fz.setl]at hl;by_cases e:i=id
  .rw[ae e]at hl;cases hl
  .rw[aa e]at hl;exact h.gs.nol i hF hl
def Rel.loopEnd(h:Rel U n X W0 fb F j a w){id:Nat}(hy:F.lp id=ZA y)(ID:∀i yi,F.lp i=ZA yi->i=id){rf:Rf}{o:Loop}(hz:j.g.z rf.l=ZA (.loop o))(o':Obj):
  Rel U n X {W0 with rf:=ZE} fb (F.endl id) (j.setz rf.l ZE) a (w.putObj rf.l o'):=by
 have hm:rf.l ∉ W0.M:=fun hm=>by have:=h.gs.md _ hm;rw[hz]at this;cases this
 refine h.putz (F':=F.endl id) (M:=W0.M) (top:=W0.top) (rf:=ZE) hz rfl o' ZE rfl rfl (fun b r hb=> ?_) (fun b hb=> ?_) h.defers (fun D hD=>⟨hD,fun e=>hm (e▸hD)⟩) h.gs.nd (fun y e=>by cases e) (fun i yi Ig=> ?_) (fun i hF hl=> ?_)
 .simp only[Fz.endl]at hb;split at hb
  .cases hb
  .exact hb
 .simp only[Fz.endl]at hb;split at hb
  .cases hb
  .exact hb
 .simp only[Fz.endl]at Ig;split at Ig
  .cases Ig
  next e=>exact ai (ID i yi Ig) e
 .simp only[Fz.endl]at hF hl;split at hF
  .exact XW
  next e=>rw[aa e]at hl;exact h.gs.nol i hF hl
def Rel.loopNew(h:Rel U n X W0 fb F j a w){id:Nat}(AW:F.row id=ZE)(hlp:F.lp id=ZE)(HV:W0.rf=ZE)(Mb:W0.top=ZB){rf:Rf}{o:Loop}(hl:rf.l=w.heap.size+1)(hi:LoopIs rf ⟨.ready,ZE⟩ o):
  Rel U n X {W0 with M:=w.heap.size::W0.M,rf:=ZA rf} fb (F.setl id (ZA ⟨.ready,ZE⟩)) {j with g:=⟨fun b=>if b=id then ZA rf.l else j.g.y b,fun k=>if k=rf.l then ZA (.loop o)else if k=w.heap.size then ZA (.deferred (ZA []))else j.g.z k⟩}
   {a with defers:={target:=.collected w.heap.size,args:= #[]}::a.defers} ((w.alloc (.deferred (ZA []))).alloc (.loop o)):=by
 have x1:Ext w (w.alloc (.deferred (ZA []))):=(Ext.refl w).alloc _;have x2:Ext (w.alloc (.deferred (ZA []))) ((w.alloc (.deferred (ZA []))).alloc (.loop o)):=(Ext.refl _).alloc _;have h':=(h.more x1).more x2;have sz1:(w.alloc (.deferred (ZA []))).heap.size=w.heap.size+1:=World.size_alloc _ _;have nol:=h.gs.nol id AW hlp;have hs:Sub j {j with g:=⟨fun b=>if b=id then ZA rf.l else j.g.y b,fun k=>if k=rf.l then ZA (.loop o)else if k=w.heap.size then ZA (.deferred (ZA []))else j.g.z k⟩}:=⟨fun _ _ h=>h,fun _ _ h=>h,fun _ _ h=>h,fun b k hb=>by
  show(if b=id then ZA rf.l else j.g.y b)=ZA k;by_cases e:b=id
  .subst e;rw[nol]at hb;cases hb
  .rw[aa e];exact hb⟩
 have hL:((w.alloc (.deferred (ZA []))).alloc (.loop o)).heap[w.heap.size+1]? =ZA (.loop o):=by have:=World.alloc_heap_new (w.alloc (.deferred (ZA []))) (.loop o);rwa [sz1]at this
 have hD:((w.alloc (.deferred (ZA []))).alloc (.loop o)).heap[w.heap.size]? =ZA (.deferred (ZA [])):=(x2.block _ (by rw[sz1];omega)).trans (World.alloc_heap_new w _);have Ct:=h.ext.size;have QP:∀b k,j.b b=ZA k->k<w.heap.size:=fun b k hb=>by obtain⟨_,_,_,_,_,_,_,As⟩:=h.lt hb;exact As
 have Jq:∀b r s k,F.row b=ZA (ZA r)->j.s b=ZA s->s.blk r.own=ZA k->k<w.heap.size:=fun b r s k hF hs hk=>by obtain⟨s',h1,h2⟩:=h.row b r hF;rw[hs]at h1;cases h1;exact h2.lt k hk
 have Lq:∀k o1,(if k=rf.l then ZA (.loop o)else if k=w.heap.size then ZA (.deferred (ZA []))else j.g.z k)=ZA o1->(k=w.heap.size+1/\o1=.loop o)\/(k=w.heap.size/\o1=.deferred (ZA []))\/(k<w.heap.size/\j.g.z k=ZA o1):=by
  intro k o1 hk;by_cases e:k=rf.l
  .rw[ae e]at hk;exact .inl ⟨e.trans hl,(ZN hk).symm⟩
  .rw[aa e]at hk;by_cases e2:k=w.heap.size
   .rw[ae e2]at hk;exact .inr (.inl ⟨e2,(ZN hk).symm⟩)
   .rw[aa e2]at hk;exact .inr (.inr ⟨h.gs.lt hk,hk⟩)
 refine⟨by simp only[h.defers,Wb.ds,Mb,bm,List.map_cons],h.size,fun t ht=> ?_,fun i v Bg=>(h'.sav i v Bg).imp _root_.id (V.den_sub hs),fun b cs ty hF=> ?_,h'.nob,h'.inj,h'.row,h'.nor,h'.sep,h'.rsep,fun b cs hF=> ?_,h'.ext,⟨fun k o1 hk=> ?_,fun k o1 b hk e=> ?_,fun k o1 b r s hk hF Bj hc e=> ?_,fun D ML=> ?_,?_,fun i yi Ig=> ?_,fun i hF B4=> ?_,fun i r s hF Bj p hp=> ?_,fun i r s hF hk Bj=> ?_⟩⟩
 .obtain⟨v,h1,h2⟩:=h'.tmp t ht;exact⟨v,h1,h2.imp _root_.id (V.den_sub hs)⟩
 .obtain⟨k,vs,h1,h2,h3,h4⟩:=h'.box b cs ty hF;exact⟨k,vs,h1,h2,bH hs h3,h4⟩
 .obtain⟨k,vs,h1,h2,h3,h4⟩:=h'.fb b cs hF;exact⟨k,vs,h1,h2,bH hs h3,h4⟩
 .rcases Lq k o1 hk with⟨rfl,rfl⟩|⟨rfl,rfl⟩|⟨h1,h2⟩
  .exact⟨hL,fun _=>by show W0.heap.size<=_;have:W0.heap.size<=w.heap.size:=Ct;omega⟩
  .exact⟨hD,fun _=>Ct⟩
  .exact h'.gs.at' k o1 h2
 .have:=QP b k e;rcases Lq k o1 hk with⟨rfl,rfl⟩|⟨rfl,rfl⟩|⟨h1,h2⟩
  .exact Fn
  .exact Fn
  .exact h.gs.box k o1 b h2 e
 .have:=Jq b r s k hF Bj e;rcases Lq k o1 hk with⟨rfl,rfl⟩|⟨rfl,rfl⟩|⟨h1,h2⟩
  .exact Fn
  .exact Fn
  .exact h.gs.row k o1 b r s h2 hF Bj hc e
 .show(if D=rf.l then ZA (.loop o)else if D=w.heap.size then ZA (.deferred (ZA []))else j.g.z D)=_;rcases YS.1 ML with rfl|ML
  .rw[aa Fn,ae rfl]
  .have h1:=h.gs.md D ML;have h2:=h.gs.lt h1;rw[aa Fn,aa Fn];exact h1
 .refine List.nodup_cons.2 ⟨fun hm=> ?_,h.gs.nd⟩;have:=h.gs.lt (h.gs.md _ hm);omega
 .simp only[Fz.setl]at Ig;by_cases e:i=id
  .rw[ae e]at Ig;cases Ig;exact⟨rf,o,rfl,by simp[e],by simp,hi⟩
  .rw[aa e]at Ig;obtain⟨_,_,h1,_⟩:=h.gs.lp i yi Ig;rw[HV]at h1;cases h1
 .simp only[Fz.setl]at B4;by_cases e:i=id
  .rw[ae e]at B4;cases B4
  .rw[aa e]at B4;show(if i=id then ZA rf.l else j.g.y i)=ZE;rw[aa e];exact h.gs.nol i hF B4
 .obtain⟨h1,h2⟩:=h.gs.ev i r s hF Bj p hp;have h3:=h.gs.lt h1;refine⟨?_,h2⟩;show(if p.1=rf.l then ZA (.loop o)else if p.1=w.heap.size then ZA (.deferred (ZA []))else j.g.z p.1)=_;rw[aa Fn,aa Fn];exact h1
 .refine(h.gs.tb i r s hF hk Bj).mono rfl rfl (fun k o1 _ ES=> ?_) (fun g ha=> ?_)
  .have h3:=h.gs.lt ES;show(if k=rf.l then ZA (.loop o)else if k=w.heap.size then ZA (.deferred (ZA []))else j.g.z k)=_;rw[aa Fn,aa Fn];exact ES
  .have h3:=(h.tabBlk hF hk Bj ha).2;exact(x2.block g Fn).trans (x1.block g h3)
def Rel.unmark:∀(M:List Nat) {W0:Wb} {F:Fz} {j:J} {a:Act} {w:World},W0.M=M->Rel U n X W0 fb F j a w->∀{fn:Func} {R:Ending->World->Prop} {F1:Fence} {m:Nat} {tm:Array Value},(∀j' w',Rel U n X {W0 with M:=[]} fb F j' {a with defers:=({W0 with M:=[]}:Wb).ds} w'->LeavesInM F1 m P fn tm R [] .returning w')->
   LeavesInM F1 m P fn tm R (M.map fun D=>{target:=.collected D,args:= #[]}) .returning w
 |[],W0,F,j,a,w,hM,h,fn,R,F1,m,tm,hk=>by obtain⟨w0,M,top,rf,If,L8⟩:=W0;cases hM;refine hk j w ?_;have:=h.defers;obtain⟨t,d⟩:=a;cases this;exact h
 |D::M,W0,F,j,a,w,hM,h,fn,R,F1,m,tm,hk=>by
   obtain⟨w0,M0,top,rf,If,L8⟩:=W0;cases hM;have hz:=h.gs.md D bW;have E1:=List.nodup_cons.1 h.gs.nd;refine⟨(by simp),.inl ⟨D,_,rfl,run_takeDeferred (h.gs.at' _ _ hz).1,?_⟩⟩;have h1:Rel U n X ⟨w0,M,top,rf,If,L8⟩ fb F (j.setz D ZE) {a with defers:=(⟨w0,M,top,rf,If,L8⟩:Wb).ds} (w.putObj D (.deferred ZE)):=by
    have h0:Rel U n X ⟨w0,D::M,top,rf,If,L8⟩ fb F j a w:=h;have:=Rel.putz (M:=M) (top:=top) (rf:=rf) (F':=F) (a:={a with defers:=(⟨w0,M,top,rf,If,L8⟩:Wb).ds}) (W0:=⟨w0,M,top,rf,If,L8⟩) (w:=w) (j:=j) (n:=n) (X:=X) (fb:=fb) (U:=U) (F:=F) ⟨rfl,h0.size,h0.tmp,h0.sav,h0.box,h0.nob,h0.inj,h0.row,h0.nor,h0.sep,h0.rsep,h0.fb,h0.ext,⟨h0.gs.at',h0.gs.box,h0.gs.row,fun D' ML=>h0.gs.md D' (cR _ ML),E1.2,h0.gs.lp,h0.gs.nol,h0.gs.ev,h0.gs.tb⟩⟩ hz rfl (.deferred ZE) ZE rfl rfl (fun _ _ h=>h) (fun _ h=>h) rfl (fun D' ML=>⟨ML,fun e=>E1.1 (e▸ML)⟩) E1.2 (fun y e=>by cases e) (fun id y hy=> ?_) h0.gs.nol
    .exact this
    .obtain⟨r,o,g1,g2,g3,g4⟩:=h0.gs.lp id y hy;refine⟨r,o,g1,g2,?_,g4⟩;show(if r.l=D then ZE else j.g.z r.l)=_;rw[aa (fun e=>by rw[e,hz]at g3;cases g3)];exact g3
   exact Rel.unmark M (W0:=⟨w0,M,top,rf,If,L8⟩) rfl h1 (fun j' w' h2=>hk j' w' h2)
end
def Fw(ro:Option Nat):Fence:={Fence.wide with round:=ro}
section
variable {P:Program}{ro:Option Nat}{n:Nat}{ops:Array Oper}{Q:Exit->Act->World->Prop}
def TH{p:Prop}:(Fw ro).depth.isSome=ZB->p:=fun h=>by cases h
def kX{f:FuncId}{args:Array Value}{R:Ending->World->Prop}:CallsIn (Fw ro) n P f args w R↔Calls P f args w R:= @callsIn_wide n P f args w R
def ns{m m':Machine}:StepsIn (Machine.fenced P (Fw ro)) P m m'↔Steps P m m':= @stepsIn_wide P m m'
def kE{K:Act->World->Prop}(E1:∀c,o.op≠.defer c)(h:o.wp P a w K Q):o.wpIn (Fw ro) n P a w K Q:=by
 refine⟨fun _ _=>trivial,?_⟩;rw[Oper.semAt_eq _ _ _ E1];unfold Oper.wp at h;generalize (execOp a.eval o).run P w=r at *;cases r with
 |ok x w'=>
   cases x with
   |value v=>exact h
   |skip=>exact h
   |defer d=>exact h
   |enter f args=>exact⟨TH,kX.2 h⟩
   |row row args=>refine⟨TH,fun c cs hr=> ?_⟩;obtain⟨v,Nb,h1,h2⟩:=h c cs;exact⟨v,Nb,h1,ns.2 h2⟩
   |_=>exact h.elim
 |halt x w'=>cases x<;>first|exact h|exact h.elim
def akK(h:o.wp P a w (fun a' _=>a'.defers=a.defers) (fun _ _ _=>False)):∀c,o.op≠.defer c:=by
 intro c hc;unfold Oper.wp at h;have:∃r:Result Deferred,(execOp a.eval o).run P w=r.andThen fun d w=>.ok (.defer d) w:=⟨(resolve a.eval c o.type).run P w,by simp only[execOp,hc,ZI,Sem.run_pure]⟩
 obtain⟨r,hr⟩:=this;rw[hr]at h;cases r with
 |ok d w'=>
   have h1:({a with defers:=d::a.defers}.put o.dst Go.undef).defers=a.defers:=h;have h2:({a with defers:=d::a.defers}.put o.dst Go.undef).defers=d::a.defers:=by unfold Act.put;split<;>rfl
   rw[h2]at h1;have:=congrArg List.length h1;simp at this
 |halt x w'=>cases x<;>exact h
def lC{c:Code}(h:c.wpIn (Fw ro) n P (Exit.noGoto Q) a w):(Code.scope c).wpIn (Fw ro) n P Q a w:=by
 intro b k cs Gj hb hr;obtain⟨e,a₁,w₁,hq,JK⟩:=h b (.inScope c::k) cs Gj hb hr;have s1:step P (lone (b.atR a (.code (.scope c)::k)) cs w)=.next (lone (b.atR a (.code c::.inScope c::k)) cs w):=step_lone_go (by simp[stepG,stepG.exec,Frame.atR]);have s2:∀a w,step P (lone (b.atR a (.inScope c::k)) cs w)=.next (lone (b.atR a k) cs w):=fun a w=>step_lone_go (by simp[stepG,stepG.exec,Frame.atR]);have S1:StepsIn (Machine.fenced P (Fw ro)) P (lone (b.atR a (.code (.scope c)::k)) cs w) (lone (b.atR a (.code c::.inScope c::k)) cs w):=ns.2 (.one s1);cases e with
 |normal=>exact⟨.normal,a₁,w₁,hq,S1.trans (StepsIn.trans JK (ns.2 (.one (s2 _ _))))⟩
 |exit id=>
   have hx:exitTo id (.inScope c::k)=exitTo id k:=by simp[exitTo]
   exact⟨.exit id,a₁,w₁,hq,fun k' hk=>S1.trans (JK.1 k' (by rw[hx];exact hk)),fun AV hk=>let⟨k₁,h1,h2⟩:=JK.2 AV (by rw[hx];exact hk);⟨k₁,h1,S1.trans h2⟩⟩
 |goto l=>exact hq.elim
 |ret=>exact⟨_,a₁,w₁,hq,.of_steps S1 JK⟩
 |panic ch=>exact⟨_,a₁,w₁,hq,.of_steps S1 JK⟩
 |outgrown=>exact⟨_,a₁,w₁,hq,.of_steps S1 JK⟩
def acC{K:Act->World->Prop}{Q':Exit->Act->World->Prop}(h:∀e a w,Q e a w->Q' e a w)(hh:o.wpIn (Fw ro) n P a w K Q):o.wpIn (Fw ro) n P a w K Q':=by
 unfold Oper.wpIn at *;refine⟨hh.1,?_⟩;have hh:=hh.2;generalize (o.semAt (Fw ro).round a.eval).run P w=r at *;cases r with
 |ok x w'=>
   cases x<;>simp only[Oper.uponIn]at hh ⊢ <;>
    first
     |exact hh
     |exact⟨hh.1,CallsIn.mono hh.2 (fun e Nb he=>by cases e<;>first|exact he|exact h _ _ _ he|exact(let⟨a,w,q⟩:=he;⟨a,w,h _ _ _ q⟩))⟩
     |exact⟨hh.1,RoundIn.mono hh.2 (fun e Nb he=>by cases e<;>first|exact he|exact h _ _ _ he|exact(let⟨a,w,q⟩:=he;⟨a,w,h _ _ _ q⟩))⟩
 |halt x w'=>cases x<;>simp only[Oper.uponIn]at hh ⊢ <;>first|exact h _ _ _ hh|exact hh
def uX{K:Act->World->Prop}{Q':Exit->Act->World->Prop}(h:∀e a w,Q e a w->Q' e a w)(hh:wpOpIn (Fw ro) n P ops Q i K a w):wpOpIn (Fw ro) n P ops Q' i K a w:=by
 unfold wpOpIn at *;split
 next ho=>simpa[ho]using hh
 .rename_i o ho;simp only[ho]at hh;split
  next hw=>simp only[hw,bm]at hh;exact acC h hh
  next hw=>simp only[hw]at hh;exact hh
def mc{Q':Exit->Act->World->Prop}(h:∀e a w,Q e a w->Q' e a w):∀(fuel:Nat) (Aa:Array Bool) (a:Act) (w:World),wpAnyIn (Fw ro) n P .any ops Q fuel Aa a w->wpAnyIn (Fw ro) n P .any ops Q' fuel Aa a w
 |0,Aa,a,w,hh=>⟨hh.1,h _ _ _ hh.2⟩
 |fuel+1,Aa,a,w,hh=>⟨fun hr=>h _ _ _ (hh.1 hr),fun i hi=>uX h (wpOpIn_mono (fun a w q=>mc h fuel _ a w q) (hh.2 i hi))⟩
def lY(E1:∀c,o.op≠.defer c)(hi:ops[i]? =ZA o)(hy:Yields P ops o v a){K:Act->World->Prop}(h:K (a.put o.dst v) w):wpOpIn (Fw ro) n P ops Q i K a w:=by
 unfold Go.wpOpIn;simp only[hi];rcases hy with⟨hw,hv⟩|⟨hw,rfl⟩
 .simp only[hw,bm,Oper.wpIn,Oper.semAt_eq _ _ _ E1,hv w,Oper.uponIn];exact⟨fun _ _=>trivial,h⟩
 .simp only[hw,Bool.false_eq_true,eA];exact⟨fun _ _=>trivial,h⟩
def acB{j:Nat}{oi oj:Oper}(hj:ops[j]? =ZA oj)(hap:oi.apart ops oj=ZB)
  (P5:∀cs b,oi.op≠.select cs b) (hsj:∀cs b,oj.op≠.select cs b) (Ru:∀c,oj.op≠.defer c)
  (hQ:∀c a w,Q (.panic c) (a.put oi.dst v) w->Q (.panic c) a w) {K:Act->World->Prop}  
  (hy:Yields P ops oi v a) (h:wpOpIn (Fw ro) n P ops Q j K (a.put oi.dst v) w):
  wpOpIn (Fw ro) n P ops Q j (fun a' w'=>Yields P ops oi v a'/\K (a'.put oi.dst v) w') a w:=by
 obtain⟨h1,h2,h3⟩:=Oper.apart_spec hap;have IX:∀(a:Act),Yields P ops oi v a->∀u,Yields P ops oi v (a.put oj.dst u):=fun a hy u=>hy.of_same (execOp_put oi P5 a oj.dst u h3) (wanted_put oi a oj.dst u h3)
 have Sb:∀d,Yields P ops oi v {a with defers:=d::a.defers}:=fun d=>hy.of_same rfl rfl;unfold wpOpIn at *;simp only[hj]at *;rw[wanted_put oj a oi.dst v h1]at h;split
 .rename_i hw;simp only[hw,bm]at h;unfold Oper.wpIn at *;refine⟨fun _ _=>trivial,?_⟩;have h:=h.2;rw[Oper.semAt_eq _ _ _ Ru,execOp_put oj hsj a oi.dst v h1]at h;rw[Oper.semAt_eq _ _ _ Ru];generalize (execOp a.eval oj).run P w=r at *;cases r with
  |ok x w'=>
    cases x<;>simp only[Oper.uponIn]at h ⊢
    case value u=>exact⟨IX a hy u,by rw[<-Act.put_comm a v u h2];exact h⟩
    case skip=>exact⟨IX a hy _,by rw[<-Act.put_comm a v undef h2];exact h⟩
    case defer d=>refine⟨IX _ (Sb d) _,?_⟩;rw[<-Act.put_comm _ v undef h2,<-Act.put_defers];exact h
    case enter f args=>
     refine⟨h.1,CallsIn.mono h.2 fun e Nb he=> ?_⟩;cases e with
     |returned u=>exact⟨IX a hy u,by rw[<-Act.put_comm a v u h2];exact he⟩
     |panicked c=>exact hQ _ _ _ he
     |outgrown=>exact he
    case row row args=>exact⟨h.1,RowsIn.mono h.2 fun u Nb he=>⟨IX a hy u,by rw[<-Act.put_comm a v u h2];exact he⟩⟩
    case round l f tmps assign body=>
     refine⟨h.1,RoundIn.mono h.2 fun e Nb he=> ?_⟩;cases e with
     |returned u=>exact⟨IX a hy u,by rw[<-Act.put_comm a v u h2];exact he⟩
     |panicked c=>exact hQ _ _ _ he
     |outgrown=>exact he
  |halt x w'=>
    cases x<;>simp only[Oper.uponIn]at h ⊢
    case panic u=>exact hQ _ _ _ h
 next hw=>simp only[hw]at h;exact⟨fun _ _=>trivial,IX a hy _,by rw[<-Act.put_comm a v undef h2];exact h.2⟩
def sV{oi:Oper}(hi:ops[i]? =ZA oi)(Cz:∀(j:Nat) (o:Oper) cs b,ops[j]? =ZA o->o.op≠.select cs b)(E1:∀(j:Nat) (o:Oper) c,ops[j]? =ZA o->o.op≠.defer c)
  (hQ:∀c a w,Q (.panic c) (a.put oi.dst v) w->Q (.panic c) a w):
  ∀(fuel:Nat) (Aa:Array Bool) (a:Act) (w:World),
   (∀j oj,ops[j]? =ZA oj->j≠i->Aa.getD j ZB=ZC->(∀e∈oj.after,ZX .any e=ZB->e.on≠i)->oi.apart ops oj=ZB)->
   i∈Region.ready .any ops Aa->Yields P ops oi v a->
   wpAnyIn (Fw ro) n P .any ops Q fuel (Aa.setIfInBounds i ZB) (a.put oi.dst v) w->wpAnyIn (Fw ro) n P .any ops Q (fuel+1) Aa a w:=by
 intro fuel
 induction fuel with
 |zero=>
   intro Aa a w _ hr hy H;refine⟨fun h=>(by rw[h]at hr;cases hr),fun j hj=> ?_⟩;by_cases hji:j=i
   .subst hji;exact lY (E1 j oi · hi) hi hy H
   .have:=ready_mono hj hji;rw[H.1]at this;cases this
 |succ fuel ih=>
   intro Aa a w MQ hr hy H;refine⟨fun h=>(by rw[h]at hr;cases hr),fun j hj=> ?_⟩;by_cases hji:j=i
   .subst hji;exact lY (E1 j oi · hi) hi hy H
   .have h1:=H.2 j (ready_mono hj hji);obtain⟨Rl,oj,UX,A8⟩:=mem_ready.1 hj;have OK:∀e∈oj.after,ZX .any e=ZB->e.on≠i:=fun e he hb DM=>by
     have h1:=A8 e he hb;have h0:=(mem_ready.1 hr).1;rw[DM]at h1;rcases bC i Aa.size with h'|h'
     .simp[h']at h0 h1;rw[h0]at h1;cases h1
     .simp[Array.getElem?_eq_none h']at h1
    have h2:=acB UX (MQ j oj UX hji Rl OK) (fun cs b=>Cz i oi cs b hi) (fun cs b=>Cz j oj cs b UX) (E1 j oj · UX) hQ hy h1;have OA:∀k ok,ops[k]? =ZA ok->k≠i->(Aa.setIfInBounds j ZB).getD k ZB=ZC->
     (∀e∈ok.after,ZX .any e=ZB->e.on≠i)->oi.apart ops ok=ZB:=fun k ok hk OD D0 Rx=>by
     refine MQ k ok hk OD ?_ Rx;by_cases hjk:j=k
     .subst hjk;exact Rl
     .rw[getD_set_ne ZB hjk]at D0;exact D0
    refine wpOpIn_mono (fun a' w' h3=>ih (Aa.setIfInBounds j ZB) a' w' OA (ready_mono hr (Ne.symm hji)) h3.1 ?_) h2;rw[Array.setIfInBounds_comm _ _ hji];exact h3.2
def uN{f:FuncId}{fn:Func}{c:Code}{args:Array Value}{R:Ending->World->Prop}(hf:P.funcs[f]? =ZA fn)(hb:fn.body=ZA c)(h:c.wpIn (Fw ZE) 0 P (bodyPost P fn R) {tmps:=args++Array.replicate (fn.ntmps-args.size) undef,defers:=[]} w):Calls P f args w R:=
 kX.1 (callsIn_of_wp (F:=Fw ZE) (n:=0) hf hb trivial h)
end
def part(A7:Nat->Bool):Nat->List Rec->Fz->Fz
 |_,[],F=>F
 |i,r::l,F=>part A7 (i+1) l (if A7 i then F.rec' r else F)
def Ck(l:List Rec)(F:Fz):Fz:=l.foldl Fz.rec' F
section
variable {P:Program}{U:Env}{n:Nat}{X:List Value}{W0:Wb}{fb:Nat->Option (List C)}{ops:Array Oper}{ro:Option Nat}
def lJ(A7:Nat->Bool):∀(l m:List Rec) (i:Nat) (F:Fz),part A7 i (l++m) F=part A7 (i+l.length) m (part A7 i l F)
 |[],m,i,F=>rfl
 |r::l,m,i,F=>by simp only[List.cons_append,part,YQ];rw[lJ A7 l m (i+1)];congr 1;omega
def wN{A7:Nat->Bool}:∀(l:List Rec) (i:Nat) (F:Fz),(∀m,m<l.length->A7 (i+m)=ZB)->part A7 i l F=Ck l F
 |[],_,_,_=>rfl
 |r::l,i,F,h=>by have h0:=h 0 (by simp);simp only[ZR]at h0;simp only[part,h0,bm,Ck,YV];exact wN l (i+1) _ (fun m hm=>by rw[ZU,Nat.add_comm 1 m];exact h (m+1) XT)
def wM{A7:Nat->Bool}:∀(l:List Rec) (i:Nat) (F:Fz),(∀m,m<l.length->A7 (i+m)=ZC)->part A7 i l F=F
 |[],_,_,_=>rfl
 |r::l,i,F,h=>by have h0:=h 0 (by simp);simp only[ZR]at h0;simp only[part,h0];exact wM l (i+1) _ (fun m hm=>by rw[ZU,Nat.add_comm 1 m];exact h (m+1) XT)
def nK{A7 sel':Nat->Bool}:∀(l:List Rec) (i:Nat) (F:Fz),(∀m,m<l.length->A7 (i+m)=sel' (i+m))->part A7 i l F=part sel' i l F
 |[],_,_,_=>rfl
 |r::l,i,F,h=>by have h0:=h 0 (by simp);simp only[ZR]at h0;simp only[part,h0];exact nK l (i+1) _ (fun m hm=>by rw[ZU,Nat.add_comm 1 m];exact h (m+1) XT)
def qW{r:Rec}{A7:Nat->Bool}:∀(l:List Rec) (i:Nat) (F F':Fz),Agree ops r F F'->(∀(m:Nat) x,l[m]? =ZA x->A7 (i+m)=ZC->Indep ops x r)->Agree ops r (Ck l F) (part A7 i l F')
 |[],_,_,_,h,_=>h
 |x::l,i,F,F',h,hi=>by
   simp only[Ck,YV,part];have tail:∀(m:Nat) y,l[m]? =ZA y->A7 (i+1+m)=ZC->Indep ops y r:=fun m y hm hs=>hi (m+1) y XT X1;by_cases hs:A7 i=ZB
   .simp only[hs,bm];exact qW l (i+1) _ _ h.congr tail
   .simp only[hs];exact qW l (i+1) _ _ (((Agree.step (hi 0 x rfl (by simpa using hs)) F).symm).trans h) tail
def nY{r:Rec}{A7:Nat->Bool}:∀(l:List Rec) (i:Nat) (F F':Fz),Agree ops r F F'->(∀(m:Nat) x,l[m]? =ZA x->A7 (i+m)=ZB->Indep ops x r)->Agree ops r F (part A7 i l F')
 |[],_,_,_,h,_=>h
 |x::l,i,F,F',h,hi=>by
   simp only[part];have tail:∀(m:Nat) y,l[m]? =ZA y->A7 (i+1+m)=ZB->Indep ops y r:=fun m y hm hs=>hi (m+1) y XT X1;by_cases hs:A7 i=ZB
   .simp only[hs,bm];exact nY l (i+1) _ _ (h.trans (Agree.step (hi 0 x rfl (by simpa using hs)) F')) tail
   .simp only[hs];exact nY l (i+1) _ _ h tail
def ue{r:Rec}{A7:Nat->Bool}:∀(l:List Rec) (i:Nat) (F:Fz),(∀(m:Nat) x,l[m]? =ZA x->A7 (i+m)=ZB->Indep ops x r)->part A7 i l (F.rec' r)=(part A7 i l F).rec' r
 |[],_,_,_=>rfl
 |x::l,i,F,hi=>by
   simp only[part];have tail:∀(m:Nat) y,l[m]? =ZA y->A7 (i+1+m)=ZB->Indep ops y r:=fun m y hm hs=>hi (m+1) y XT X1;by_cases hs:A7 i=ZB
   .simp only[hs,bm];rw[<-abn (hi 0 x rfl (by simpa using hs))];exact ue l (i+1) _ tail
   .simp only[hs];exact ue l (i+1) _ tail
structure RecOk(P:Program)(hw:World->Prop)(U:Env)(n:Nat)(base:Nat)(fb:Nat->Option (List C))(ops:Array Oper)(r:Rec)(F:Fz):Prop where
 run:r.want=ZB->∃vw,vw.nid=r.nid/\OpOk P hw U base vw r.o r.eff/\Sees n fb vw r.o r.eff F
 skip:r.want=ZC->r.eff={val:=.one .undef}
 guard:match r.o.guard with
  |none=>r.want=ZB
  |some (g,b)=>∃t,(ops[g]?).bind (·.dst)=ZA t/\t<n/\((∃e:E,F.tmp t=.one (.bool e)/\r.want=(e.B U==b))\/(F.tmp t=.one .undef/\r.want=ZC))
 dst:∀d,r.o.dst=ZA d->d<n
def RecOk.agree{r:Rec}{F F':Fz}(h:RecOk P W0.hw U n W0.heap.size fb ops r F)(ha:Agree ops r F F'):RecOk P W0.hw U n W0.heap.size fb ops r F':=by
 refine⟨fun hw=> ?_,h.skip,?_,h.dst⟩
 .obtain⟨vw,hn,h1,h2⟩:=h.run hw;have AW:∀b∈r.rid,F.row b=F'.row b:=fun b hb=>ha.row b (ZV _ hb);refine⟨vw,hn,h1,⟨fun x hx v hv=> ?_,fun p hp c hc=> ?_,fun p hp=> ?_,fun hx=>by rw[hn];exact(ha.nw hx).1 (by rw[<-hn];exact h2.nw hx),fun id IA q hq=> ?_,?_,h2.fb,h2.one⟩⟩
  .have h3:=h2.ev x hx v hv;cases x with
   |tmp t=>simp only[PV]at h3 ⊢;rw[<-ha.t t (ZZ _ (abw hx))];exact h3
   |_=>exact h3
  .rw[<-ha.rd p hp];exact h2.rd p hp c hc
  .obtain⟨c,hc⟩:=h2.wr p hp;have:=ha.wr p hp;rw[hc]at this;exact Option.isSome_iff_exists.1 this.symm
  .have:=h2.rr id IA q hq;unfold Qf at this ⊢;rw[<-ha.row id (ZZ _ IA)];exact this
  .have h3:=h2.re;rw[hn]at h3 ⊢;unfold Rec.rid at AW;revert h3 AW;cases r.eff.re with
   |none=>exact fun _ _=>trivial
   |set id q=>intro AW h3;exact⟨by rw[<-AW id Yh];exact h3.1,h3.2⟩
   |mk rs=>
     intro AW h3 i hi;have mem:∀(rs:List RowOb) (nid i:Nat),i<rs.length->nid+i∈(EW nid rs).map (·.1):=by
      intro rs
      induction rs with
      |nil=>intro nid i hi;simp at hi
      |cons x rs ih=>
        intro nid i hi;cases i with
        |zero=>simp[EW]
        |succ i=>simp only[EW,List.map_cons,YS];right;rw[show nid+(i+1)=nid+1+i by omega];exact ih (nid+1) i XS
     rw[<-AW _ (mem rs r.nid i hi)];exact h3 i hi
   |app old q=>intro AW h3;exact⟨by rw[<-AW old Yh];exact h3.1,h3.2.1,by rw[<-AW r.nid Yh];exact h3.2.2.1,h3.2.2.2⟩
   |frz old q0 q=>intro AW h3;exact⟨by rw[<-AW old Yh];exact h3.1,h3.2.1,h3.2.2.1,by rw[<-AW r.nid Yh];exact h3.2.2.2.1,h3.2.2.2.2⟩
   |tset old q0 tab q=>intro AW h3;exact⟨by rw[<-AW old Yh];exact h3.1,h3.2.1,by rw[<-AW tab Yh];exact h3.2.2.1,h3.2.2.2⟩
   |peek q=>intro AW h3;exact⟨h3.1,by rw[<-AW r.nid Yh];exact h3.2⟩
   |view old q0 q=>intro AW h3;exact⟨by rw[<-AW old Yh];exact h3.1,h3.2.1,h3.2.2.1,by rw[<-AW r.nid Yh];exact h3.2.2.2.1,h3.2.2.2.2⟩
 .have hg:=h.guard;cases Ie:r.o.guard with
  |none=>rw[Ie]at hg;exact hg
  |some p=>obtain⟨g,b⟩:=p;rw[Ie]at hg;obtain⟨t,h1,h2,h3⟩:=hg;refine⟨t,h1,h2,?_⟩;have:F.tmp t=F'.tmp t:=ha.t t (ZV _ (by simp[gTs,Ie,h1]));rw[<-this];exact h3
def ni{F:Fz}(h:Rel U n X W0 fb F j a w){g:Nat}(ht:(ops[g]?).bind (·.dst)=ZA t)(hn:t<n):
  (∀e,F.tmp t=.one (.bool e)->yielded ops a.tmps g=ZA (e.B U))/\(F.tmp t=.one .undef->yielded ops a.tmps g=ZE):=by
 obtain⟨v,h1,h2⟩:=h.tmp t hn;constructor
 .intro e he;rw[he]at h2;rcases h2 with h2|h2
  .exact XU
  have:=kO h2;subst this;simp[yielded,ht,h1]
 .intro he;rw[he]at h2;rcases h2 with h2|h2
  .exact XU
  have:v=Go.undef:=(ZN h2).symm;subst this;simp[yielded,ht,h1,Go.undef]
def W6{F:Fz}(h:Rel U n X W0 fb F j a w){r:Rec}(hr:RecOk P W0.hw U n W0.heap.size fb ops r F)(El:r.want=ZB){K:Act->World->Prop}{Q:Exit->Act->World->Prop}(hK:∀j' a' w',Rel U n X W0 fb (F.rec' r) j' a' w'->K a' w'):r.o.wp P a w K Q:=by
 obtain⟨vw,hn,h1,h2⟩:=hr.run El;exact apP h h1 h2 hr.dst (by rw[hn];exact hK)
def ase{F:Fz}(h:Rel U n X W0 fb F j a w){r:Rec}(hr:RecOk P W0.hw U n W0.heap.size fb ops r F)(El:r.want=ZB):∀c,r.o.op≠.defer c:=akK (W6 h hr El (fun j' a' w' h'=>h'.defers.trans h.defers.symm))
def abl{F:Fz}(h:Rel U n X W0 fb F j a w){r:Rec}(hr:RecOk P W0.hw U n W0.heap.size fb ops r F):Region.wanted r.o (yielded ops a.tmps)=r.want:=by
 have hg:=hr.guard;unfold Region.wanted;cases Ie:r.o.guard with
 |none=>rw[Ie]at hg;exact hg.symm
 |some p=>
   obtain⟨g,b⟩:=p;rw[Ie]at hg;obtain⟨t,h1,h2,h3⟩:=hg;obtain⟨h4,h5⟩:=ni h h1 h2;rcases h3 with⟨e,h6,h7⟩|⟨h6,h7⟩
   .simp only[h4 e h6,h7];cases e.B U<;>cases b<;>rfl
   .simp only[h5 h6,h7];rfl
def mB{F:Fz}(h:Rel U n X W0 fb F j a w){r:Rec}(hr:RecOk P W0.hw U n W0.heap.size fb ops r F)(hi:ops[i]? =ZA r.o){K:Act->World->Prop}{Q:Exit->Act->World->Prop}(hK:∀j' a' w',Rel U n X W0 fb (F.rec' r) j' a' w'->K a' w'):wpOpIn (Fw ro) 0 P ops Q i K a w:=by
 have hw:=abl h hr;unfold wpOpIn;simp only[hi,hw];cases El:r.want with
 |true=>exact kE (ase h hr El) (W6 h hr El hK)
 |false=>have he:=hr.skip El;refine⟨fun _ _=>trivial,hK j _ w ?_⟩;unfold Fz.rec' Fz.app;rw[he];exact h.put rfl hr.dst
def rP:∀(post pre:List Rec) (F0:Fz),ops.toList=(pre++post).map (·.o)->(∀(m:Nat) r,post[m]? =ZA r->RecOk P W0.hw U n W0.heap.size fb ops r (Ck (pre++post.take m) F0))->
  ∀{Q:Exit->Act->World->Prop} {j:J} {a:Act} {w:World},Rel U n X W0 fb (Ck pre F0) j a w->(∀j' a' w',Rel U n X W0 fb (Ck (pre++post) F0) j' a' w'->Q .normal a' w')->wpOpsIn (Fw ro) 0 P ops Q (List.range' pre.length post.length) a w
 |[],pre,F0,hl,hr,Q,j,a,w,h,hQ=>by simp only[List.length_nil,List.range'_zero,wpOpsIn];exact hQ j a w Xx
 |r::post,pre,F0,hl,hr,Q,j,a,w,h,hQ=>by
   simp only[YQ,List.range'_succ];rw[wpOpsIn_cons];have h0:=hr 0 r rfl;simp only[List.take_zero,List.append_nil]at h0;refine mB h h0 ?_ (fun j' a' w' h'=> ?_)
   .rw[<-lE,hl];simp
   .have:=rP post (pre++[r]) F0 (by rw[hl];simp) (fun m x hm=>by
     have:=hr (m+1) x XT;simpa using this) (Q:=Q) (j:=j') (a:=a') (w:=w') (by simpa[Ck]using h') (fun Vf a'' Nb L3=>hQ Vf a'' Nb (by simpa using L3))
    simpa using this
def iL(ops:Array Oper)(A7:Nat->Bool):Prop:=∀(i:Nat) o,ops[i]? =ZA o->A7 i=ZB->∀e∈o.after,ZX .any e=ZB->A7 e.on=ZB
def ac4{L:List Rec}{F0:Fz}(hl:ops.toList=L.map (·.o))(hr:∀(m:Nat) r,L[m]? =ZA r->RecOk P W0.hw U n W0.heap.size fb ops r (Ck (L.take m) F0))
  (KN:∀(i:Nat) o,ops[i]? =ZA o->∀e∈o.after,ZX .any e=ZB->e.on<i)
  (HT:∀(k i:Nat) x r,k<i->L[k]? =ZA x->L[i]? =ZA r->Indep ops x r\/∀A7,iL ops A7->(∀o,ops[i]? =ZA o->∀e∈o.after,ZX .any e=ZB->A7 e.on=ZB)->A7 k=ZB) {Q:Exit->Act->World->Prop}
  (hQ:∀j' a' w',Rel U n X W0 fb (Ck L F0) j' a' w'->Q .normal a' w'):
  ∀(fuel:Nat) (Aa:Array Bool) (j:J) (a:Act) (w:World),Aa.size=L.length->iL ops (fun i=>Aa.getD i ZC)->(List.range L.length).countP (fun i=>!Aa.getD i ZC)<=fuel->
   Rel U n X W0 fb (part (fun i=>Aa.getD i ZC) 0 L F0) j a w->wpAnyIn (Fw ro) 0 P .any ops Q fuel Aa a w:=by
 have BR:ops.size=L.length:=by rw[<-Array.length_toList,hl,List.length_map]
 have Ad:∀(i:Nat) r,L[i]? =ZA r->ops[i]? =ZA r.o:=fun i r hi=>by rw[<-lE,hl,js,hi];rfl
 have gd:∀(Aa:Array Bool) (i:Nat),Aa.size=L.length->i<L.length->Aa.getD i ZB=Aa.getD i ZC:=fun Aa i hs hi=>by rw[iB,iB,Array.getElem?_eq_getElem Fn];rfl
 have done:∀(Aa:Array Bool) (j:J) (a:Act) (w:World),Aa.size=L.length->iL ops (fun i=>Aa.getD i ZC)->Rel U n X W0 fb (part (fun i=>Aa.getD i ZC) 0 L F0) j a w->Region.ready .any ops Aa=[]->Q .normal a w:=by
  intro Aa j a w hs hc h Eh;refine hQ j a w ?_;have A8:∀i,i<L.length->Aa.getD i ZC=ZB:=by
   intro i
   induction i using Nat.strongRecOn with
   |_ i ih=>
     intro hi;cases hb:Aa.getD i ZC with
     |true=>rfl
     |false=>
       exfalso;have:i∈Region.ready .any ops Aa:=by
        unfold Region.ready;simp only[List.mem_filter,List.mem_range,ne,ZO];obtain⟨r,AV⟩:∃r,L[i]? =ZA r:=⟨L[i],AH hi⟩
        have ho:=Ad i r AV;refine⟨by omega,?_,?_⟩
        .rw[gd Aa i hs hi];exact hb
        .rw[ho];simp only[YR,Option.getD_some,Array.all_eq_true_iff_forall_mem,fy,ZO];intro e he;cases hbd:ZX .any e with
         |false=>exact .inl rfl
         |true=>have As:=KN i _ ho e he hbd;exact .inr (ih e.on As Fn)
       rw[Eh]at this;cases this
  rw[wN L 0 F0 (fun m hm=>by simpa using A8 m hm)]at h;exact h
 intro fuel
 induction fuel with
 |zero=>
   intro Aa j a w hs hc hf h;have A8:∀i,i<L.length->Aa.getD i ZC=ZB:=fun i hi=>by have:=List.countP_eq_zero.1 (Nat.le_zero.1 hf) i (List.mem_range.2 hi);simpa using this
   have Eh:Region.ready .any ops Aa=[]:=by
    unfold Region.ready;rw[List.filter_eq_nil_iff];intro i hi;have Bg:i<L.length:=by rw[List.mem_range]at hi;omega
    rw[gd Aa i hs Bg,A8 i Bg];simp
   exact⟨Eh,done Aa j a w hs hc h Eh⟩
 |succ fuel ih=>
   intro Aa j a w hs hc hf h;refine⟨fun Eh=>done Aa j a w hs hc h Eh,fun i hi=> ?_⟩;obtain⟨D0,o,ho,A8⟩:=mem_ready.1 hi;have Bg:i<L.length:=by
    rw[<-BR];rcases bC i ops.size with h1|h1
    .exact h1
    .rw[Array.getElem?_eq_none h1]at ho;cases ho
   obtain⟨r,AV⟩:∃r,L[i]? =ZA r:=⟨L[i],AH Bg⟩
   have UW:=Ad i r AV;rw[ho]at UW;cases UW;have OT:Aa.getD i ZC=ZC:=by rw[<-gd Aa i hs Bg];exact D0
   have D4:L=L.take i++r::L.drop (i+1):=by rw[AH Bg]at AV;cases AV;simp
   have AZ:(L.take i).length=i:=XD;have CJ:∀(m:Nat) x,(L.take i)[m]? =ZA x->Aa.getD (0+m) ZC=ZC->Indep ops x r:=by
    intro m x hm Cz;have P0:m<i:=by
     rcases bC m i with h1|h1
     .exact h1
     .rw[cn Fn]at hm;cases hm
    rw[List.getElem?_take_of_lt P0]at hm;rcases HT m i x r P0 hm AV with h1|h1
    .exact h1
    .exfalso;have:=h1 (fun i=>Aa.getD i ZC) hc (fun o' GO e he hb=>by
      rw[ho]at GO;cases GO;exact A8 e he hb)
     simp only[bP]at Cz;rw[Cz]at this;cases this
   have HU:∀(m:Nat) x,(L.drop (i+1))[m]? =ZA x->Aa.getD (i+1+m) ZC=ZB->Indep ops x r:=by
    intro m x hm Cz;rw[List.getElem?_drop]at hm;rcases HT i (i+1+m) r x Fn AV hm with h1|h1
    .exact h1.symm
    .exfalso;have:=h1 (fun i=>Aa.getD i ZC) hc (fun o' GO e he hb=>hc (i+1+m) o' GO Cz e he hb);rw[OT]at this;cases this
   have hF:part (fun i=>Aa.getD i ZC) 0 L F0=part (fun i=>Aa.getD i ZC) (i+1) (L.drop (i+1)) (part (fun i=>Aa.getD i ZC) 0 (L.take i) F0):=by
    conv=>lhs;rw[D4]
    rw[lJ,AZ,bP];simp only[part,OT];rfl
   have Ed:Agree ops r (Ck (L.take i) F0) (part (fun i=>Aa.getD i ZC) 0 L F0):=by rw[hF];exact nY _ _ _ _ (qW _ 0 _ _ (Agree.refl ops r F0) CJ) HU
   have Aj:=(hr i r AV).agree Ed;refine mB h Aj ho (fun j' a' w' h'=> ?_);have OR:(Aa.setIfInBounds i ZB).size=L.length:=by simp[hs]
   have Cw:∀k,(Aa.setIfInBounds i ZB).getD k ZC=if k=i then ZB else Aa.getD k ZC:=by
    intro k;rw[iB,Array.getElem?_setIfInBounds];by_cases hk:k=i
    .subst hk;simp[hs,Bg]
    .have Ly:¬i=k:=fun e=>hk e.symm;simp[hk,Ly,iB]
   refine ih _ j' a' w' OR ?_ ?_ ?_
   .intro k o' hk Cz e he hb;simp only[Cw]at Cz ⊢;by_cases OD:k=i
    .subst OD;rw[ho]at hk;cases hk;split
     .rfl
     .exact A8 e he hb
    .rw[aa OD]at Cz;split
     .rfl
     .exact hc k o' hk Cz e he hb
   .have:(List.range L.length).countP (fun k=>!(Aa.setIfInBounds i ZB).getD k ZC)<(List.range L.length).countP (fun k=>!Aa.getD k ZC):=by
     have e1:(List.range L.length)=List.range i++i::(List.range' (i+1) (L.length-(i+1))):=by
      have h1:i::List.range' (i+1) (L.length-(i+1))=List.range' i (L.length-i):=by rw[show L.length-i=(L.length-(i+1))+1 by omega,List.range'_succ]
      have h2:=List.range'_append_1 (s:=0) (m:=i) (n:=L.length-i);rw[bP,show i+(L.length-i)=L.length by omega]at h2;rw[h1,List.range_eq_range',List.range_eq_range',h2]
     rw[e1,List.countP_append,List.countP_append,List.countP_cons,List.countP_cons];have c1:∀l:List Nat,i ∉ l->l.countP (fun k=>!(Aa.setIfInBounds i ZB).getD k ZC)=l.countP (fun k=>!Aa.getD k ZC):=by intro l B4;apply List.countP_congr;intro k hk;have:k≠i:=fun e=>B4 (e▸hk);simp only[Cw,this,eA]
     rw[c1 _ (by simp),c1 _ (by rw[List.mem_range'_1];omega)];simp[Cw,OT]
    omega
   .have:part (fun k=>(Aa.setIfInBounds i ZB).getD k ZC) 0 L F0=(part (fun i=>Aa.getD i ZC) 0 L F0).rec' r:=by
     rw[hF]
     conv=>lhs;rw[D4]
     rw[lJ,AZ,bP];simp only[part,Cw,bm];rw[nK (sel':=fun i=>Aa.getD i ZC) (L.take i) 0 F0 (fun m hm=>by
      have:m≠i:=by rw[AZ]at hm;omega
      simp[this])]
     rw[nK (sel':=fun i=>Aa.getD i ZC) (L.drop (i+1)) (i+1) _ (fun m hm=>by
      have:¬i+1+m=i:=Fn;simp[this])]
     exact ue _ _ _ HU
    rw[this];exact h'
end
section
variable {P:Program}
def zM(P:Program)(o:Oper)(a:Act):Prop:=∃v,∀w,(execOp a.eval o).run P w=.ok (.value v) w
def rH(h:o.op=.move x\/o.op=.assign x)(a:Act):zM P o a:=⟨a.eval x,fun w=>by rcases h with h|h<;>simp[execOp,h]⟩
def yj(hv:∀ad,v≠.pointer (ZA ad))(w:World):∃x w',(Instr.sureAddr v).run P w=.halt x w':=by
 cases v with
 |pointer p=>
   cases p with
   |some ad=>exact ai rfl (hv ad)
   |none=>exact⟨_,_,rfl⟩
 |_=>exact⟨_,_,rfl⟩
def adl{s f:Nat}(hv:∀ad,v≠.pointer (ZA ad))(w:World):∃x w',(Instr.fieldAt s v f).run P w=.halt x w':=by
 unfold Instr.fieldAt;simp only[ZI];cases h:(underlying s).run P w with
 |halt x w1=>exact⟨x,w1,rfl⟩
 |ok d w1=>
   simp only[Result.andThen_ok];split
   .split
    .simp only[ZI];obtain⟨x,w2,h2⟩:=yj hv w1;rw[h2];exact⟨x,w2,rfl⟩
    .exact⟨_,_,rfl⟩
   .exact⟨_,_,rfl⟩
def ym{s:Nat}{f:Nat}(h:o.op=.fieldAddr s x f){i:TI}(ht:TIok P s i){off ft:Nat}(hf:i.fields[f]? =ZA (off,ft)){K:Act->World->Prop}(hw:o.wp P a w K fun _ _ _=>False):zM P o a:=by
 by_cases hx:∃ad,a.eval x=.pointer (ZA ad)
 .obtain⟨ad,hx⟩:=hx;exact⟨.pointer (ZA (ad.add off)),fun w=>by simp[execOp,h,hx,ZI,ht.fieldAt f off ft hf w ad]⟩
 .exfalso;obtain⟨y,w',h2⟩:=adl (P:=P) (s:=s) (f:=f) (v:=a.eval x) (fun ad e=>hx ⟨ad,e⟩) w;unfold Oper.wp at hw;simp only[execOp,h,ZI,h2]at hw;cases y<;>exact hw
def Alike(P:Program)(s:Sem α):Prop:=(∃v,∀w,s.run P w=.ok v w)\/∀w,∃x w',s.run P w=.halt x w'
def Alike.pure(a:α):Alike P (Pure.pure a:Sem α):=.inl ⟨a,fun _=>rfl⟩
def Alike.stuck(m:String):Alike P (Go.stuck m:Sem α):=.inr fun w=>⟨_,_,rfl⟩
def Alike.unsup(u:Unsupported):Alike P (Go.unsupported u:Sem α):=.inr fun w=>⟨_,_,rfl⟩
def Alike.bind{β:Type}{s:Sem α}{f:α->Sem β}(h:Alike P s)(hf:∀v,Alike P (f v)):Alike P (s >>= f):=by
 rcases h with⟨v,h⟩|h
 .rcases hf v with⟨u,h2⟩|h2
  .exact .inl ⟨u,fun w=>by rw[ZI,h];exact h2 w⟩
  .exact .inr fun w=>by rw[ZI,h];exact h2 w
 .refine .inr fun w=> ?_;obtain⟨x,w',h1⟩:=h w;exact⟨x,w',by rw[ZI,h1];rfl⟩
def Alike.info(t:TypeId):Alike P (typeInfo t):=by
 cases h:P.info? t with
 |some i=>exact .inl ⟨i,fun w=>by simp[typeInfo,h]⟩
 |none=>exact .inr fun w=>⟨.stuck "no such type",w,by simp[typeInfo,h]⟩
def Alike.und(t:TypeId):Alike P (underlying t):=by
 cases h:P.underlying t with
 |some i=>exact .inl ⟨i,fun w=>by simp[underlying,h]⟩
 |none=>exact .inr fun w=>⟨.stuck "no such type",w,by simp[underlying,h]⟩
def Alike.size(t:TypeId):Alike P (sizeOf t):=(Alike.info t).bind fun _=>.pure _
def Alike.agg(t:TypeId):Alike P (isAgg t):=(Alike.und t).bind fun d=>by split<;>exact .pure _
def Alike.int(v:Value):Alike P (asIntOf v):=by
 unfold asIntOf;split
 .exact .pure _
 .exact .unsup _
 .exact .stuck _
def Alike.addr(v:Value):Alike P (Instr.sureAddr v):=by
 unfold Instr.sureAddr;split
 .exact .pure _
 .exact .stuck _
def lM(w:World):∃x w',(runtimePanic .nilDeref:Sem α).run P w=.halt x w':=⟨_,_,rfl⟩
def sJ(x y:Int)(b:Bool)(c:BoundsCode)(w:World):∃h w',(runtimePanic (.bounds x y b c):Sem α).run P w=.halt h w':=⟨_,_,rfl⟩
def aiY(k:IntKind)(x y:Int)(c:BoundsCode)(w:World):∃h w',(boundsPanic k x y c:Sem α).run P w=.halt h w':=by
 unfold boundsPanic;dsimp only;split
 .rw[ZI];cases hq:(Functor.map (· ==1) (choose (.extern "runtime.boundsError.signed" 2))).run P w with
  |ok b w1=>exact sJ _ _ b c w1
  |halt h w1=>exact⟨h,w1,rfl⟩
 .rw[ZI];exact sJ _ _ _ c w
def Alike.bounds(k:IntKind)(x y:Int)(c:BoundsCode):Alike P (boundsPanic k x y c:Sem α):=.inr (aiY k x y c)
def Alike.part(t:TypeId)(cs:Array Value)(off:Nat):Alike P (Go.part t cs off):=by
 unfold Go.part;refine(Alike.agg t).bind fun b=> ?_;split
 .exact(Alike.size t).bind fun _=>.pure _
 .split
  .exact .pure _
  .exact .stuck _
def Alike.blind:∀(l:List FieldStep) (t:TypeId) (x:Option Value),Alike P (followBlind l t x)
 |[],t,x=>.pure _
 |s::rest,t,x=>by
   unfold followBlind;refine(Alike.und _).bind fun d=> ?_;split
   .split
    .split
     .exact .pure _
     .exact Alike.blind rest _ _
     .exact .stuck _
     .exact .pure _
     .exact(Alike.part _ _ _).bind fun _=>Alike.blind rest _ _
     .exact .stuck _
     .exact Alike.blind rest _ _
    .exact .stuck _
   .exact .stuck _
def Alike.nil:∀(n:Nat) (t:TypeId) (v:Value) (name:String),Alike P (nilAhead n t v name)
 |0,t,v,name=>.pure _
 |n+1,t,v,name=>by
   unfold nilAhead;refine(Alike.info _).bind fun i=> ?_;split
   .refine(Alike.blind _ _ _).bind fun r=> ?_;split
    .exact .pure _
    .split
     .exact Alike.nil n _ _ _
     .exact .pure _
     .exact .stuck _
     .exact .pure _
     .exact .pure _
     .refine(Alike.und _).bind fun d=> ?_;split<;>exact .pure _
   .exact .stuck _
def Alike.index(t:TypeId)(x y:Value):Alike P (Instr.indexAt t x y):=by
 unfold Instr.indexAt;refine(Alike.int y).bind fun p=> ?_;refine(Alike.und t).bind fun d=> ?_;dsimp only;split
 .refine(Alike.addr _).bind fun a=>(Alike.pure _).bind fun q=> ?_;obtain⟨b,l,e⟩:=q;refine(Alike.und t).bind fun d=> ?_;dsimp only;split
  .split
   .exact Yc
   .exact XQ
  .exact YB
 .refine(Alike.pure _).bind fun q=> ?_;obtain⟨b,l,e⟩:=q;refine(Alike.und t).bind fun d=> ?_;dsimp only;split
  .split
   .exact Yc
   .exact XQ
  .exact YB
 .refine(Alike.stuck _).bind fun q=> ?_;obtain⟨b,l,e⟩:=q;refine(Alike.und t).bind fun d=> ?_;dsimp only;split
  .split
   .exact Yc
   .exact XQ
  .exact YB
def Alike.bound(x:Value)(y:Nat)(c:BoundsCode):Alike P (Instr.sliceBound x y c):=by
 unfold Instr.sliceBound;refine(Alike.int x).bind fun p=> ?_;dsimp only;split
 .exact .pure _
 .exact YB
def Alike.bounds3(b:Bool)(n c:Nat)(l h m:Option Value):Alike P (Instr.sliceBounds b n c l h m):=by
 unfold Instr.sliceBounds;cases m<;>cases h<;>cases l<;>dsimp only<;>
  (repeat (first|exact .pure _|refine Alike.bind (.pure _) fun _=> ?_|refine Alike.bind (.bound _ _ _) fun _=> ?_|refine Alike.bind (.stuck _) fun _=> ?_))
def Alike.asAddr(v:Value):Alike P (Go.asAddr v):=by
 unfold Go.asAddr;split
 .exact .pure _
 .exact .inr fun w=>lM w
 .exact .stuck _
def Alike.slice0(t:TypeId)(x:Value)(l h m:Option Value):Alike P (Instr.slice t x l h m):=by
 unfold Instr.slice;refine(Alike.und t).bind fun d=> ?_;split
 .dsimp only;split
  .exact(Alike.stuck _).bind fun _=>(Alike.bounds3 _ _ _ _ _ _).bind fun _=>.pure _
  .exact(Alike.bounds3 _ _ _ _ _ _).bind fun _=>.pure _
 .exact(Alike.bounds3 _ _ _ _ _ _).bind fun _=>(Alike.size _).bind fun _=>.pure _
 .refine(Alike.asAddr _).bind fun a=>(Alike.und _).bind fun d=> ?_;split
  .exact(Alike.bounds3 _ _ _ _ _ _).bind fun _=>(Alike.size _).bind fun _=>.pure _
  .exact .stuck _
 .exact .stuck _
def Alike.slice(t:TypeId)(x:Value)(l h m:Option Value):Alike P (Instr.sliceAt t x l h m):=by
 unfold Instr.sliceAt;refine(Alike.und t).bind fun d=> ?_;split
 .exact(Alike.addr _).bind fun _=>(Alike.bounds3 _ _ _ _ _ _).bind fun _=>(Alike.size _).bind fun _=>.pure _
 .exact .slice0 _ _ _ _ _
def lF(h:Alike P (execOp a.eval o))(hv:∀v w w',(execOp a.eval o).run P w=.ok v w'->∃u,v=.value u){K:Act->World->Prop}(hw:o.wp P a w K fun _ _ _=>False):zM P o a:=by
 rcases h with⟨v,h⟩|h
 .obtain⟨u,rfl⟩:=hv v w w (h w);exact⟨u,h⟩
 .exfalso;obtain⟨x,w',h2⟩:=h w;unfold Oper.wp at hw;rw[h2]at hw;cases x<;>exact hw
def yl{y:Operand}(h:o.op=.indexAddr t x y){K:Act->World->Prop}(hw:o.wp P a w K fun _ _ _=>False):zM P o a:=by
 refine lF ?_ (fun v w w' hv=> ?_) hw
 .simp only[execOp,h];exact(Alike.index _ _ _).bind fun _=>.pure _
 .simp only[execOp,h,ZI]at hv;cases hq:(Instr.indexAt t (a.eval x) (a.eval y)).run P w with
  |ok u w1=>rw[hq]at hv;cases hv;exact⟨u,rfl⟩
  |halt u w1=>rw[hq]at hv;cases hv
def yk{l h' m:Option Operand}(h:o.op=.slice t x l h' m){K:Act->World->Prop}(hw:o.wp P a w K fun _ _ _=>False):zM P o a:=by
 refine lF ?_ (fun v w w' hv=> ?_) hw
 .simp only[execOp,h];exact(Alike.slice _ _ _ _ _).bind fun _=>.pure _
 .simp only[execOp,h,ZI]at hv;revert hv;generalize (Instr.sliceAt _ _ _ _ _).run P w=r;intro hv;cases r with
  |ok u w1=>cases hv;exact⟨u,rfl⟩
  |halt u w1=>cases hv
def aeV(h:o.op=.nilCheck x){K:Act->World->Prop}(hw:o.wp P a w K fun _ _ _=>False):zM P o a:=by
 have nd:Alike P (runtimePanic .nilDeref:Sem Next):=.inr fun w=>lM w;refine lF ?_ (fun v w w' hv=> ?_) hw
 .simp only[execOp,h];split
  .exact nd
  .exact nd
  .exact nd
  .split
   .exact nd
   .refine Alike.bind (.inl ⟨P,fun _=>rfl⟩) fun p=> ?_;refine(Alike.nil _ _ _ _).bind fun r=> ?_;split
    .exact Alike.bind (.unsup _) fun _=>.pure _
    .exact .pure _
   .exact .pure _
  .exact .pure _
 .have no:∀{w1:World},(runtimePanic .nilDeref:Sem Next).run P w1=.ok v w'->False:=fun {w1} h=>by
   obtain⟨x,w2,e⟩:=lM (P:=P) (α:=Next) w1;rw[e]at h;cases h
  simp only[execOp,h]at hv;split at hv
  .exact(no hv).elim
  .exact(no hv).elim
  .exact(no hv).elim
  .split at hv
   .exact(no hv).elim
   .simp only[ZI,run_program,Result.andThen_ok]at hv;revert hv;generalize (nilAhead _ _ _ _).run P w=r;intro hv;cases r with
    |halt x w1=>cases hv
    |ok b w1=>
      simp only[Result.andThen_ok]at hv;split at hv
      .cases hv
      .cases hv;exact⟨_,rfl⟩
   .cases hv;exact⟨_,rfl⟩
  .cases hv;exact⟨_,rfl⟩
end
def dO(A7:Nat->Bool):List (Nat×Rec)->Fz->Fz
 |[],F=>F
 |p::l,F=>dO A7 l (if A7 p.1 then F.rec' p.2 else F)
def rp(l:List (Nat×Rec))(F:Fz):Fz:=l.foldl (fun F p=>F.rec' p.2) F
def Nn(ops:Array Oper)(l:Array Bool):Nat:=(List.range ops.size).countP fun i=>!l.getD i ZC
def ajg(ops:Array Oper)(k i:Nat):Prop:=∀A7,iL ops A7->(∀o,ops[i]? =ZA o->∀e∈o.after,ZX .any e=ZB->A7 e.on=ZB)->A7 k=ZB
section
variable {P:Program}{U:Env}{n:Nat}{X:List Value}{W0:Wb}{fb:Nat->Option (List C)}{ops:Array Oper}{ro:Option Nat}
def ke(A7:Nat->Bool):∀(l m:List (Nat×Rec)) (F:Fz),dO A7 (l++m) F=dO A7 m (dO A7 l F)
 |[],m,F=>rfl
 |p::l,m,F=>by simp only[List.cons_append,dO];exact ke A7 l m _
def nL{A7:Nat->Bool}:∀(l:List (Nat×Rec)) (F:Fz),(∀p∈l,A7 p.1=ZB)->dO A7 l F=rp l F
 |[],_,_=>rfl
 |p::l,F,h=>by simp only[dO,h p bW,bm,rp,YV];exact nL l _ (fun q hq=>h q (cR _ hq))
def rQ{A7:Nat->Bool}:∀(l:List (Nat×Rec)) (F:Fz),(∀p∈l,A7 p.1=ZC)->dO A7 l F=F
 |[],_,_=>rfl
 |p::l,F,h=>by simp only[dO,h p bW];exact rQ l _ (fun q hq=>h q (cR _ hq))
def lK{A7 sel':Nat->Bool}:∀(l:List (Nat×Rec)) (F:Fz),(∀p∈l,A7 p.1=sel' p.1)->dO A7 l F=dO sel' l F
 |[],_,_=>rfl
 |p::l,F,h=>by simp only[dO,h p bW];exact lK l _ (fun q hq=>h q (cR _ hq))
def nZ{r:Rec}{A7:Nat->Bool}:∀(l:List (Nat×Rec)) (F F':Fz),Agree ops r F F'->(∀p∈l,A7 p.1=ZC->Indep ops p.2 r)->Agree ops r (rp l F) (dO A7 l F')
 |[],_,_,h,_=>h
 |x::l,F,F',h,hi=>by
   simp only[rp,YV,dO];have tail:∀p∈l,A7 p.1=ZC->Indep ops p.2 r:=fun p hp=>hi p (cR _ hp);by_cases hs:A7 x.1=ZB
   .simp only[hs,bm];exact nZ l _ _ h.congr tail
   .simp only[hs];exact nZ l _ _ (((Agree.step (hi x bW (by simpa using hs)) F).symm).trans h) tail
def lV{r:Rec}{A7:Nat->Bool}:∀(l:List (Nat×Rec)) (F F':Fz),Agree ops r F F'->(∀p∈l,A7 p.1=ZB->Indep ops p.2 r)->Agree ops r F (dO A7 l F')
 |[],_,_,h,_=>h
 |x::l,F,F',h,hi=>by
   simp only[dO];have tail:∀p∈l,A7 p.1=ZB->Indep ops p.2 r:=fun p hp=>hi p (cR _ hp);by_cases hs:A7 x.1=ZB
   .simp only[hs,bm];exact lV l _ _ (h.trans (Agree.step (hi x bW hs) F')) tail
   .simp only[hs];exact lV l _ _ h tail
def qj{r:Rec}{A7:Nat->Bool}:∀(l:List (Nat×Rec)) (F:Fz),(∀p∈l,A7 p.1=ZB->Indep ops p.2 r)->dO A7 l (F.rec' r)=(dO A7 l F).rec' r
 |[],_,_=>rfl
 |x::l,F,hi=>by
   simp only[dO];have tail:∀p∈l,A7 p.1=ZB->Indep ops p.2 r:=fun p hp=>hi p (cR _ hp);by_cases hs:A7 x.1=ZB
   .simp only[hs,bm];rw[<-abn (hi x bW hs)];exact qj l _ tail
   .simp only[hs];exact qj l _ tail
structure Float(P:Program)(ops:Array Oper)(A7:Nat->Bool)(i:Nat)(o:Oper):Prop where
 still:∀a w K,o.wp P a w K (fun _ _ _=>False)->zM P o a
 guard:o.guard=ZE
 nosel:Region.noSelect ops=ZB
 free:∀(k:Nat) ok,ops[k]? =ZA ok->k≠i->A7 k=ZC->(∀e∈ok.after,ZX .any e=ZB->e.on≠i)->o.apart ops ok=ZB
def UA(base:Nat->Bool)(L:List (Nat×Rec))(i:Nat)(k:Nat):Bool:=base k||L.any fun q=>Nat.beq q.1 k&&Nat.blt k i
def uL{Aa:Array Bool}(hs:Aa.size=ops.size)(hi:i<ops.size)(D0:Aa.getD i ZC=ZC):Nn ops (Aa.setIfInBounds i ZB)<Nn ops Aa:=by
 have Cw:∀k,(Aa.setIfInBounds i ZB).getD k ZC=if k=i then ZB else Aa.getD k ZC:=by
  intro k;rw[iB,Array.getElem?_setIfInBounds];by_cases hk:k=i
  .subst hk;simp[hs,hi]
  .have Ly:¬i=k:=fun e=>hk e.symm;simp[hk,Ly,iB]
 unfold Nn;have e1:(List.range ops.size)=List.range i++i::(List.range' (i+1) (ops.size-(i+1))):=by
  have h1:i::List.range' (i+1) (ops.size-(i+1))=List.range' i (ops.size-i):=by rw[show ops.size-i=(ops.size-(i+1))+1 by omega,List.range'_succ]
  have h2:=List.range'_append_1 (s:=0) (m:=i) (n:=ops.size-i);rw[bP,show i+(ops.size-i)=ops.size by omega]at h2;rw[h1,List.range_eq_range',List.range_eq_range',h2]
 rw[e1,List.countP_append,List.countP_append,List.countP_cons,List.countP_cons];have c1:∀l:List Nat,i ∉ l->l.countP (fun k=>!(Aa.setIfInBounds i ZB).getD k ZC)=l.countP (fun k=>!Aa.getD k ZC):=by intro l B4;apply List.countP_congr;intro k hk;have:k≠i:=fun e=>B4 (e▸hk);simp only[Cw,this,eA]
 rw[c1 _ (by simp),c1 _ (by rw[List.mem_range'_1];omega)];simp[Cw,D0]
def sG{Aa:Array Bool}(hs:Aa.size=ops.size)(ho:ops[i]? =ZA o)(hc:iL ops (fun i=>Aa.getD i ZC))(A8:∀e∈o.after,ZX .any e=ZB->Aa.getD e.on ZC=ZB):
  iL ops (fun k=>(Aa.setIfInBounds i ZB).getD k ZC):=by
 have hi:i<ops.size:=(ig.1 ho).1;intro k o' hk Cz e he hb;by_cases OD:k=i
 .subst OD;rw[ho]at hk;cases hk;exact getD_set_true (A8 e he hb)
 .dsimp only at Cz;rw[getD_set_ne ZC (Ne.symm OD)]at Cz;exact getD_set_true (hc k o' hk Cz e he hb)
def ape{L:List (Nat×Rec)}{F0:Fz}{base:Nat->Bool}{Q:Exit->Act->World->Prop}(hQ:∀c a w,¬Q (.panic c) a w)(hdf:∀(j:Nat) (o:Oper) c,ops[j]? =ZA o->o.op≠.defer c)
  (Ad:∀p∈L,ops[p.1]? =ZA p.2.o) (E1:(L.map (·.1)).Nodup)
  (hr:∀(m:Nat) p,L[m]? =ZA p->RecOk P W0.hw U n W0.heap.size fb ops p.2 (rp (L.take m) F0))
  (HT:∀(m q:Nat) x r,m<q->L[m]? =ZA x->L[q]? =ZA r->Indep ops x.2 r.2\/ajg ops x.1 r.1)
  (KN:∀p∈L,∀e∈p.2.o.after,ZX .any e=ZB->e.on<p.1/\(base e.on=ZB\/∃q∈L,q.1=e.on))
  (hout:∀i,i<ops.size->base i=ZC->(∀p∈L,p.1≠i)->∀p∈L,Float P ops (UA base L p.1) p.1 p.2.o\/ajg ops p.1 i)
  (L5:∀(Aa:Array Bool) (j:J) (a:Act) (w:World),Aa.size=ops.size->iL ops (fun i=>Aa.getD i ZC)->(∀i,Aa.getD i ZC=ZB↔(base i=ZB\/∃p∈L,p.1=i))->
   Rel U n X W0 fb (rp L F0) j a w->∀fuel,Nn ops Aa<=fuel->wpAnyIn (Fw ro) 0 P .any ops Q fuel Aa a w):
  ∀(N:Nat) (Aa:Array Bool) (j:J) (a:Act) (w:World),L.countP (fun p=>!Aa.getD p.1 ZC)<=N->Aa.size=ops.size->iL ops (fun i=>Aa.getD i ZC)->
   (∀i,Aa.getD i ZC=ZB->base i=ZB\/∃p∈L,p.1=i)->(∀i,base i=ZB->Aa.getD i ZC=ZB)->
   Rel U n X W0 fb (dO (fun i=>Aa.getD i ZC) L F0) j a w->∀fuel,Nn ops Aa<=fuel->wpAnyIn (Fw ro) 0 P .any ops Q fuel Aa a w:=by
 have Nh:∀(Aa:Array Bool),(∀p∈L,Aa.getD p.1 ZC=ZB)\/∃p∈L,Aa.getD p.1 ZC=ZC/\∀q∈L,Aa.getD q.1 ZC=ZC->p.1<=q.1:=by
  intro Aa;by_cases h:∃p∈L,Aa.getD p.1 ZC=ZC
  .right;have key:∀(k:Nat),(∃p∈L,Aa.getD p.1 ZC=ZC/\p.1<=k)->∃p∈L,Aa.getD p.1 ZC=ZC/\∀q∈L,Aa.getD q.1 ZC=ZC->p.1<=q.1:=by
    intro k
    induction k using Nat.strongRecOn with
    |_ k ih=>
      rintro ⟨p,hp,hu,hk⟩;by_cases hm:∃q∈L,Aa.getD q.1 ZC=ZC/\q.1<p.1
      .obtain⟨q,hq,hqu,As⟩:=hm;exact ih q.1 Fn ⟨q,hq,hqu,ZK _⟩
      .refine⟨p,hp,hu,fun q hq hqu=> ?_⟩;rcases bC q.1 p.1 with h1|h1
       .exact ai ⟨q,hq,hqu,h1⟩ hm
       .exact h1
   obtain⟨p,hp,hu⟩:=h;exact key p.1 ⟨p,hp,hu,ZK _⟩
  .left;intro p hp;cases hb:Aa.getD p.1 ZC with
   |true=>rfl
   |false=>exact ai ⟨p,hp,hb⟩ h
 have idx:∀{p q:Nat×Rec},p∈L->q∈L->p.1=q.1->p=q:=by
  intro p q hp hq e;obtain⟨m,hm⟩:=List.getElem?_of_mem hp;obtain⟨m',Hs⟩:=List.getElem?_of_mem hq;have h1:(L.map (·.1))[m]? =ZA p.1:=by rw[js,hm];rfl
  have h2:(L.map (·.1))[m']? =ZA p.1:=by rw[js,Hs,e];rfl
  have:m=m':=(List.getElem?_inj (cZ.1 h1).1 E1).1 (h1.trans h2.symm);subst this;rw[hm]at Hs;cases Hs;rfl
 intro N
 induction N with
 |zero=>
   intro Aa j a w hN hs hc BG Ct h fuel hf;have A8:∀p∈L,Aa.getD p.1 ZC=ZB:=fun p hp=>by have:=List.countP_eq_zero.1 (Nat.le_zero.1 hN) p hp;simpa using this
   rw[nL L F0 A8]at h;exact L5 Aa j a w hs hc (fun i=>⟨BG i,fun h=>by
    rcases h with h|⟨p,hp,rfl⟩
    .exact Ct i h
    .exact A8 p hp⟩) h fuel hf
 |succ N ih=>
   intro Aa j a w hN hs hc BG Ct h fuel hf;rcases Nh Aa with A8|⟨p0,Kp,Vc,Rs⟩
   .rw[nL L F0 A8]at h;exact L5 Aa j a w hs hc (fun i=>⟨BG i,fun h=>by
    rcases h with h|⟨p,hp,rfl⟩
    .exact Ct i h
    .exact A8 p hp⟩) h fuel hf
   have gd:∀i,i<ops.size->Aa.getD i ZB=Aa.getD i ZC:=fun i hi=>by rw[iB,iB,Array.getElem?_eq_getElem Fn];rfl
   have lt0:p0.1<ops.size:=(ig.1 (Ad p0 Kp)).1;have Hi:p0.1∈Region.ready .any ops Aa:=by
    rw[mem_ready];refine⟨by rw[gd _ lt0];exact Vc,p0.2.o,Ad p0 Kp,fun e he hb=> ?_⟩;obtain⟨h1,h2⟩:=KN p0 Kp e he hb;rcases h2 with h2|⟨q,hq,e1⟩
    .exact Ct _ h2
    .cases DU:Aa.getD e.on ZC with
     |true=>rfl
     |false=>have:=Rs q hq (by rw[e1];exact DU);omega
   obtain⟨fuel,rfl⟩:∃f,fuel=f+1:=by
    cases fuel with
    |zero=>have:=uL (ops:=ops) hs lt0 Vc;omega
    |succ f=>exact⟨f,rfl⟩
   have step:∀p∈L,Aa.getD p.1 ZC=ZC->(∀e∈p.2.o.after,ZX .any e=ZB->Aa.getD e.on ZC=ZB)->
    RecOk P W0.hw U n W0.heap.size fb ops p.2 (dO (fun i=>Aa.getD i ZC) L F0)/\
    ∀j' a' w',Rel U n X W0 fb ((dO (fun i=>Aa.getD i ZC) L F0).rec' p.2) j' a' w'->wpAnyIn (Fw ro) 0 P .any ops Q fuel (Aa.setIfInBounds p.1 ZB) a' w':=by
    intro p hp D0 A8;obtain⟨m,hm⟩:=List.getElem?_of_mem hp;have hml:m<L.length:=(cZ.1 hm).1;have D4:L=L.take m++p::L.drop (m+1):=by rw[AH hml]at hm;cases hm;simp
    have CJ:∀q∈L.take m,Aa.getD q.1 ZC=ZC->Indep ops q.2 p.2:=by
     intro q hq Cz;obtain⟨k,hk⟩:=List.getElem?_of_mem hq;have hkm:k<m:=by have:=(cZ.1 hk).1;rw[List.length_take]at this;omega
     rw[List.getElem?_take_of_lt hkm]at hk;rcases HT k m q p hkm hk hm with h1|h1
     .exact h1
     .exfalso;have:=h1 (fun i=>Aa.getD i ZC) hc (fun o' GO e he hb=>by
       rw[Ad p hp]at GO;cases GO;exact A8 e he hb)
      (try dsimp only at this)
      rw[Cz]at this;cases this
    have HU:∀q∈L.drop (m+1),Aa.getD q.1 ZC=ZB->Indep ops q.2 p.2:=by
     intro q hq Cz;obtain⟨k,hk⟩:=List.getElem?_of_mem hq;rw[List.getElem?_drop]at hk;rcases HT m (m+1+k) p q Fn hm hk with h1|h1
     .exact h1.symm
     .exfalso;have:=h1 (fun i=>Aa.getD i ZC) hc (fun o' GO e he hb=>hc q.1 o' GO Cz e he hb)
      (try dsimp only at this)
      rw[D0]at this;cases this
    have hF:dO (fun i=>Aa.getD i ZC) L F0=dO (fun i=>Aa.getD i ZC) (L.drop (m+1)) (dO (fun i=>Aa.getD i ZC) (L.take m) F0):=by
     conv=>lhs;rw[D4]
     rw[ke];simp only[dO,D0];rfl
    have Ed:Agree ops p.2 (rp (L.take m) F0) (dO (fun i=>Aa.getD i ZC) L F0):=by rw[hF];exact lV _ _ _ (nZ _ _ _ (Agree.refl ops p.2 F0) CJ) HU
    refine⟨(hr m p hm).agree Ed,fun j' a' w' h'=> ?_⟩;have hpi:p.1<ops.size:=(ig.1 (Ad p hp)).1;have Cw:∀k,(Aa.setIfInBounds p.1 ZB).getD k ZC=if k=p.1 then ZB else Aa.getD k ZC:=by
     intro k;rw[iB,Array.getElem?_setIfInBounds];by_cases hk:k=p.1
     .subst hk;simp[hs,hpi]
     .have Ly:¬p.1=k:=fun e=>hk e.symm;simp[hk,Ly,iB]
    have Jp:∀q,q∈L.take m\/q∈L.drop (m+1)->q.1≠p.1:=by
     intro q hq e;have hqL:q∈L:=by
      rcases hq with hq|hq
      .exact List.mem_of_mem_take hq
      .exact List.mem_of_mem_drop hq
     have e2:=idx hqL hp e;subst e2;have OJ:=E1;rw[D4,List.map_append,List.map_cons]at OJ;rw[List.nodup_append]at OJ;obtain⟨_,h2,h3⟩:=OJ;rcases hq with hq|hq
     .exact h3 _ (List.mem_map.2 ⟨q,hq,rfl⟩) _ bW rfl
     .exact(List.nodup_cons.1 h2).1 (List.mem_map.2 ⟨q,hq,rfl⟩)
    refine ih (Aa.setIfInBounds p.1 ZB) j' a' w' ?_ (by simp[hs]) (sG hs (Ad p hp) hc A8) (fun i hi=> ?_) (fun i hi=>getD_set_true (Ct i hi)) ?_ fuel (by have:=uL (ops:=ops) hs hpi D0;omega)
    .have:L.countP (fun q=>!(Aa.setIfInBounds p.1 ZB).getD q.1 ZC)<L.countP (fun q=>!Aa.getD q.1 ZC):=by
      rw[D4,List.countP_append,List.countP_append,List.countP_cons,List.countP_cons];have c1:∀l:List (Nat×Rec),(∀q∈l,q.1≠p.1)->l.countP (fun q=>!(Aa.setIfInBounds p.1 ZB).getD q.1 ZC)=l.countP (fun q=>!Aa.getD q.1 ZC):=by intro l B4;apply List.countP_congr;intro q hq;simp only[Cw,B4 q hq,eA]
      rw[c1 _ (fun q hq=>Jp q (.inl hq)),c1 _ (fun q hq=>Jp q (.inr hq))];simp[Cw,D0]
     omega
    .rw[Cw]at hi;split at hi
     next e=>subst e;exact .inr ⟨p,hp,rfl⟩
     .exact BG i hi
    .have:dO (fun k=>(Aa.setIfInBounds p.1 ZB).getD k ZC) L F0=(dO (fun i=>Aa.getD i ZC) L F0).rec' p.2:=by
      rw[hF]
      conv=>lhs;rw[D4]
      rw[ke];simp only[dO,Cw,bm];rw[lK (sel':=fun i=>Aa.getD i ZC) (L.take m) F0 (fun q hq=>by
       simp[Jp q (.inl hq)])]
      rw[lK (sel':=fun i=>Aa.getD i ZC) (L.drop (m+1)) _ (fun q hq=>by
       simp[Jp q (.inr hq)])]
      exact qj _ _ HU
     rw[this];exact h'
   by_cases E0:Float P ops (UA base L p0.1) p0.1 p0.2.o
   ·
    obtain⟨JN,hgo⟩:=step p0 Kp Vc (fun e he hb=>by
     obtain⟨_,o,ho,A8⟩:=mem_ready.1 Hi;rw[Ad p0 Kp]at ho;cases ho;exact A8 e he hb)
    have hwnt:p0.2.want=ZB:=by rw[<-abl h JN];simp[Region.wanted,E0.guard]
    have h1:=W6 (Q:=fun _ _ _=>False) h JN hwnt (K:=fun a' w'=>∃j',Rel U n X W0 fb ((dO (fun i=>Aa.getD i ZC) L F0).rec' p0.2) j' a' w') (fun j' a' w' h'=>⟨j',h'⟩);have El:Region.wanted p0.2.o (yielded ops a.tmps)=ZB:=by simp[Region.wanted,E0.guard]
    .obtain⟨v,hv⟩:=E0.still a w _ h1;have h2:=h1;unfold Oper.wp at h2;rw[hv w]at h2;obtain⟨j',h3⟩:∃j',Rel U n X W0 fb ((dO (fun i=>Aa.getD i ZC) L F0).rec' p0.2) j' (a.put p0.2.o.dst v) w:=h2;refine sV (Ad p0 Kp) (Region.noSelect_spec E0.nosel) hdf (fun c a w h=>ai h (hQ c _ w)) fuel Aa a w (fun k ok hk BM D0 Rx=> ?_) Hi (.inl ⟨El,hv⟩) (hgo j' _ w h3);refine E0.free k ok hk BM ?_ Rx;have Ko:k<ops.size:=(ig.1 hk).1;rw[gd k Ko]at D0;cases P6:UA base L p0.1 k with
     |false=>rfl
     |true=>
       exfalso;simp only[UA,fy,List.any_eq_true,ne,Nat.blt_eq]at P6;rcases P6 with h4|⟨q,hq,h4,h5⟩
       .rw[Ct k h4]at D0;cases D0
       .have e1:=Ak h4;have:=Rs q hq (by rw[e1];exact D0);omega
   .refine⟨fun Eh=>(by rw[Eh]at Hi;cases Hi),fun i hi=> ?_⟩;obtain⟨D0,o,ho,A8⟩:=mem_ready.1 hi;have Bg:i<ops.size:=(ig.1 ho).1;rw[gd i Bg]at D0;have De:∃p∈L,p.1=i:=by
     by_cases hh:∃p∈L,p.1=i
     .exact hh
     .exfalso;have hb:base i=ZC:=by
       cases hb:base i with
       |false=>rfl
       |true=>rw[Ct i hb]at D0;cases D0
      rcases hout i Bg hb (fun p hp e=>hh ⟨p,hp,e⟩) p0 Kp with h1|h1
      .exact E0 h1
      .have:=h1 (fun i=>Aa.getD i ZC) hc (fun o' GO e he DU=>by
        rw[ho]at GO;cases GO;exact A8 e he DU)
       (try dsimp only at this)
       rw[Vc]at this;cases this
    obtain⟨p,hp,rfl⟩:=De;rw[Ad p hp]at ho;cases ho;obtain⟨JN,hgo⟩:=step p hp D0 A8;exact mB h JN (Ad p hp) (fun j' a' w' h'=>hgo j' a' w' h')
end
def HF(n:Nat)(tmps:TM):Operand->Option V
 |.tmp t=>if Nat.blt t n then(match tmps.get? t with
   |some .top=>ZE
   |x=>x)else ZE
 |.const v=>ofValue v
 |.global _=>ZE
 |.func f=>ZA (.one (.fn f))
def Kt(heap:List Ob)(b o:Nat):Option C:=match heap[b]? with
 |some (.box cs _)=>cs[o]?
 |_=>ZE
def Ku(heap:List Ob)(id:Nat):Option RowOb:=match heap[id]? with
 |some (.row r)=>ZA r
 |_=>ZE
def Cx.fbs(cx:Cx)(b:Nat):Option (List C):=cx.fb[b]?
def Mv(heap:List Ob)(b o n:Nat):Option (List C):=match heap[b]? with
 |some (.box cs _)=>Sn cs o n
 |_=>ZE
def agI{heap:List Ob}(b o n:Nat)(ds:List C)(h:Mv heap b o n=ZA ds):jX (Kt heap) b o n=ZA ds:=by
 unfold Mv at h;split at h
 next cs ty hb=>have:=W2 (ld:=Kt heap) (b:=b) (k:=0) h (fun i=>by simp[Kt,hb]);rwa [bP]at this
 .exact Xo
def St.vw(cx:Cx)(s:St):Vw:=⟨HF s.n s.tmps,Kt s.heap,Ku s.heap,cx.fbs,s.heap.length,Mv s.heap,agI⟩
def Ce(heap:List Ob)(b:Nat):Option (List C×Nat):=match heap[b]? with
 |some (.box cs ty)=>ZA (cs,ty)
 |_=>ZE
def BP(heap:List Ob)(b:Nat):Option (Option RowOb):=match heap[b]? with
 |some (.row r)=>ZA (ZA r)
 |some .gone=>ZA ZE
 |_=>ZE
def Hh(heap:List Ob)(b:Nat):Option Lp:=match heap[b]? with
 |some (.loop y)=>ZA y
 |_=>ZE
def Ob.noLp:Ob->Bool
 |.loop _=>ZC
 |_=>ZB
def lN{heap:List Ob}{ob Vh:Ob}(h:heap[b]? =ZA ob)(h1:ob.noLp=ZB)(h2:Vh.noLp=ZB)(x:Nat):Hh (heap.set b Vh) x=Hh heap x:=by
 unfold Hh;rw[em];by_cases hb:b=x
 .subst hb;rw[ae rfl,ae (cZ.1 h).1,h];cases ob<;>cases Vh<;>first|rfl|(cases h1;done)|(cases h2;done)
 .rw[aa hb]
def fR{heap l:List Ob}(h:∀ob∈l,ob.noLp=ZB)(x:Nat):Hh (heap++l) x=Hh heap x:=by
 unfold Hh;rcases bC x heap.length with h1|h1
 .rw[A9 h1]
 .rw[Bo h1,cn h1];cases hl:l[x-heap.length]? with
  |none=>rfl
  |some ob=>have:=h ob (fI hl);cases ob<;>first|rfl|cases this
def Ax(tm:Nat->V)(heap:List Ob):Fz:=⟨tm,Ce heap,BP heap,Hh heap⟩
def St.fs(s:St):Fz:=Ax (fun t=>(s.tmps.get? t).getD (.one .undef)) s.heap
def Ia:List (Nat×Nat×C)->List Ob->Option (List Ob)
 |[],h=>ZA h
 |(b,o,c)::l,h=>match h[b]? with
   |some (.box cs ty)=>if o<cs.length then Ia l (h.set b (.box (cs.set o c) ty))else ZE
   |_=>ZE
def Mw(b:Nat):Nat->List (Nat×Nat×C)->Option (List C)
 |_,[]=>ZA []
 |o,(b',o',c)::l=>if Nat.beq b b'&&Nat.beq o o' then(Mw b (o+1) l).map (c::·)else ZE
def qg:List C->Nat->List C->Option (List C)
 |cs,0,[]=>ZA cs
 |_::cs,0,v::vs=>(qg cs 0 vs).map (v::·)
 |c::cs,o+1,vs=>(qg cs o vs).map (c::·)
 |[],_,_=>ZE
def Pm(l:List (Nat×Nat×C))(h:List Ob):Option (List Ob):=
 match l with
 |(b,o,c)::l'=>(match Mw b o ((b,o,c)::l')with
   |some vs=>(match h[b]? with
     |some (.box cs ty)=>(qg cs o vs).map fun ds=>h.set b (.box ds ty)
     |_=>ZE)
   |none=>Ia ((b,o,c)::l') h)
 |[]=>ZA h
def agG:∀{l:List (Nat×Nat×C)} {b o:Nat} {vs:List C},Mw b o l=ZA vs->l=eN b o vs
 |[],b,o,vs,h=>by cases h;rfl
 |(b',o',c)::l,b,o,vs,h=>by
   simp only[Mw]at h;split at h
   next hb=>simp only[ne]at hb;rw[Ay]at h;obtain⟨us,h1,rfl⟩:=h;rw[agG h1,<-Ak hb.1,<-Ak hb.2];rfl
   .exact Xo
def qf:∀{cs:List C} {o:Nat} {vs ds:List C},qg cs o vs=ZA ds->o+vs.length<=cs.length/\∀n,(n<o\/o+vs.length<=n->ds[n]? =cs[n]?)/\(o<=n->n<o+vs.length->ds[n]? =vs[n-o]?)
 |cs,0,[],ds,h=>by
   have:cs=ds:=by cases cs<;>simpa[qg]using h
   subst this;exact⟨by simp,fun n=>⟨fun _=>rfl,fun _ h=>by simp at h⟩⟩
 |c::cs,0,v::vs,ds,h=>by
   simp only[qg,Ay]at h;obtain⟨us,h1,rfl⟩:=h;obtain⟨h2,h3⟩:=qf h1;refine⟨by simp only[YQ];omega,fun n=>⟨fun hn=> ?_,fun _ hn=> ?_⟩⟩
   .cases n with
    |zero=>simp only[YQ]at hn;omega
    |succ n=>simp only[mj];exact(h3 n).1 (by simp only[YQ]at hn;omega)
   .cases n with
    |zero=>rfl
    |succ n=>have:=(h3 n).2 (Nat.zero_le _) (by simp only[YQ]at hn;omega);simpa using this
 |c::cs,o+1,vs,ds,h=>by
   simp only[qg,Ay]at h;obtain⟨us,h1,rfl⟩:=h;obtain⟨h2,h3⟩:=qf h1;refine⟨by simp only[YQ];omega,fun n=>⟨fun hn=> ?_,fun h4 hn=> ?_⟩⟩
   .cases n with
    |zero=>rfl
    |succ n=>simp only[mj];exact(h3 n).1 Fn
   .cases n with
    |zero=>omega
    |succ n=>simp only[mj,Nat.add_sub_add_right];exact(h3 n).2 Fn Fn
 |[],0,v::vs,ds,h=>by cases h
 |[],o+1,vs,ds,h=>by cases h
def zP:∀{vs:List C} {b o:Nat} {h:List Ob} {cs:List C} {ty:Nat},h[b]? =ZA (.box cs ty)->o+vs.length<=cs.length->Ia (eN b o vs) h=ZA (h.set b (.box (lh cs o vs) ty))
 |[],b,o,h,cs,ty,hb,hl=>by
   simp only[eN,Ia,lh];congr 1;apply List.ext_getElem?;intro n;rw[em];split
   next hn=>subst hn;rw[ae (cZ.1 hb).1];exact hb
   .rfl
 |v::vs,b,o,h,cs,ty,hb,hl=>by have As:b<h.length:=(cZ.1 hb).1;simp only[YQ]at hl;simp only[eN,Ia,hb];rw[ae Fn,zP (cs:=cs.set o v) (ty:=ty) (by rw[em];simp[As]) XD];simp only[lh,List.set_set]
def rK:∀(vs cs:List C) (o n:Nat),o+vs.length<=cs.length->(lh cs o vs)[n]? =if o<=n/\n<o+vs.length then vs[n-o]? else cs[n]?
 |[],cs,o,n,_=>by simp only[lh,List.length_nil];rw[aa Fn]
 |v::vs,cs,o,n,hl=>by
   simp only[YQ]at hl ⊢;rw[lh,rK vs (cs.set o v) (o+1) n XD];by_cases h1:o+1<=n/\n<o+1+vs.length
   .rw[ae h1,ae Fn,show n-o=(n-(o+1))+1 by omega];rfl
   .rw[aa h1,em];by_cases h2:o=n
    .subst h2;rw[ae rfl,ae Fn,ae Fn,Nat.sub_self];rfl
    .rw[aa h2,aa Fn]
def aot{l:List (Nat×Nat×C)}{h h':List Ob}(e:Pm l h=ZA h'):Ia l h=ZA h':=by
 unfold Pm at e;split at e
 .split at e
  .rename_i vs Cl;split at e
   .rename_i cs ty hb;rw[Ay]at e;obtain⟨ds,h1,rfl⟩:=e;obtain⟨h2,h3⟩:=qf h1;rw[agG Cl,zP hb h2];congr 2;congr 1;apply List.ext_getElem?;intro n;rw[rK _ _ _ _ h2];split
    next hn=>exact((h3 n).2 hn.1 hn.2).symm
    next hn=>exact((h3 n).1 Fn).symm
   .cases e
  .exact e
 .exact e
def zp(heap:List Ob)(eff:Eff):Option (List Ob):=
 match eff.al,eff.re with
 |some x,.none=>(match eff.wr with |[]=>ZA (heap++[.box x.1 x.2])|_=>ZE)
 |none,.none=>Pm eff.wr heap
 |none,.set id r=>(match eff.wr,heap[id]? with
   |[],ZA (.row q)=>if q.own&&r.own then ZA (heap.set id (.row r))else ZE
   |_,_=>ZE)
 |none,.mk rs=>(match eff.wr with |[]=>ZA (heap++rs.map .row)|_=>ZE)
 |none,.app old r=>(match eff.wr,heap[old]? with
   |[],ZA (.row q)=>if q.own&&r.own then ZA (heap.set old .gone++[.row r])else ZE
   |_,_=>ZE)
 |none,.view old q r=>(match eff.wr,heap[old]? with
   |[],ZA (.row _)=>if !q.own &&!r.own then ZA (heap.set old (.row q)++[.row r])else ZE
   |_,_=>ZE)
 |none,.frz old q r=>(match eff.wr,heap[old]? with
   |[],ZA (.row q0)=>if q0.own&&(!q.own&&r.own)then ZA (heap.set old (.row q)++[.row r])else ZE
   |_,_=>ZE)
 |none,.tset old q tab r=>(match eff.wr,heap[old]?,heap[tab]? with
   |[],ZA (.row q0),ZA (.row r0)=>if(q0.own &&!q.own)&&((r0.own&&r.own) &&!Nat.beq tab old)then ZA ((heap.set old (.row q)).set tab (.row r))else ZE
   |_,_,_=>ZE)
 |none,.peek r=>(match eff.wr with
   |[]=>if !r.own then ZA (heap++[.row r])else ZE
   |_=>ZE)
 |_,_=>ZE
def St.app(s:St)(dst:Option Nat)(eff:Eff):Option St:=
 match zp s.heap eff with
 |none=>ZE
 |some h=>match dst with
   |none=>ZA ⟨s.tmps,h⟩
   |some d=>if Nat.blt d s.n then ZA ⟨s.tmps.set d eff.val,h⟩else ZE
def aiv(s:St)(hn:s.n<=s.tmps.length)(x:Operand):PV s.fs s.n x=HF s.n s.tmps x:=by
 cases x with
 |tmp t=>
   simp only[PV,HF,St.fs,Ax];by_cases h:t<s.n
   .obtain⟨v,h2⟩:=TM.get_some (nr h hn);rw[ae h,ae (by simpa[Nat.blt_eq]using h),h2];simp only[Option.getD_some];cases v<;>rfl
   .rw[aa h,aa (by simpa[Nat.blt_eq]using h)]
 |_=>rfl
def zf(s:St)(b o:Nat):C3 s.fs b o=Kt s.heap b o:=by simp only[C3,St.fs,Ax,Ce,Kt];split<;>rfl
def nE(s:St)(id:Nat):Qf s.fs id=Ku s.heap id:=by simp only[Qf,St.fs,Ax,BP,Ku];split<;>simp_all
def adU:∀(l:List (Nat×Nat×C)) (h h':List Ob) (tm:Nat->V),Ia l h=ZA h'->Ax tm h'=Fz.wrs (Ax tm h) l/\∀p∈l,∃c,C3 (Ax tm h) p.1 p.2.1=ZA c
 |[],h,h',tm,e=>by cases e;exact⟨rfl,fun p hp=>by cases hp⟩
 |(b,o,c)::l,h,h',tm,e=>by
   simp only[Ia]at e;split at e
   .rename_i cs ty hb;split at e
    .rename_i ho;obtain⟨h1,h2⟩:=adU l _ h' tm e;have Q1:b<h.length:=(cZ.1 hb).1;have hw:Ax tm (h.set b (.box (cs.set o c) ty))=Fz.wr (Ax tm h) (b,o,c):=by
      refine Fz.ext' (fun _=>rfl) (fun b'=> ?_) (fun b'=> ?_) (fun b'=>lN hb rfl rfl b')
      .simp only[Fz.wr,Ax,Ce,em];by_cases MO:b'=b
       .subst MO;simp only[bm,Q1,hb,YR]
       .simp[MO,show¬b=b' from fun e=>MO e.symm]
      .simp only[Fz.wr,Ax,BP,em];by_cases MO:b=b'
       .subst MO;simp only[bm,Q1,hb]
       .simp[MO]
     refine⟨by rw[h1,hw];rfl,fun p hp=> ?_⟩;rcases YS.1 hp with rfl|hp
     .exact⟨cs[o],by simp[C3,Ax,Ce,hb,AH ho]⟩
     .obtain⟨c',Gg⟩:=h2 p hp;rw[hw,xb]at Gg;split at Gg
      .rw[Ay]at Gg;obtain⟨x,hx,_⟩:=Gg;exact⟨x,hx⟩
      .exact⟨c',Gg⟩
    .cases e
   .cases e
def rN{heap:List Ob}(h:heap[b]? =ZA (.row r)):BP heap b=ZA (ZA r)/\Ce heap b=ZE/\b<heap.length:=⟨by simp[BP,h],by simp[Ce,h],(cZ.1 h).1⟩
def kg{heap:List Ob}(h:heap.length<=b):BP heap b=ZE/\Ce heap b=ZE:=⟨by simp[BP,cn h],by simp[Ce,cn h]⟩
def adh{heap KT:List Ob}(h:zp heap eff=ZA KT)(tm:Nat->V):
  Ax tm KT=((match eff.al with|some x=>(Ax tm heap).new heap.length x|none=>(Ax tm heap).wrs eff.wr).rws (eff.re.rs heap.length))/\(∀p∈eff.wr,∃c,C3 (Ax tm heap) p.1 p.2.1=ZA c)/\Gb (Ax tm heap) heap.length eff.re/\((eff.al=ZE/\eff.wr=[])\/eff.re=.none):=by
 unfold zp at h;split at h
 .rename_i x DK DP;split at h
  .rename_i Ca;cases h;rw[DK,DP,Ca];refine⟨?_,fun p hp=>Ym,trivial,.inr rfl⟩;refine Fz.ext' (fun _=>rfl) (fun b=> ?_) (fun b=> ?_) (fun b=>fR (fun ob IC=>by rw[dA.1 IC];rfl) b)
   .simp only[Fz.new,Fz.rws,RE.rs,List.foldl_nil,Ax,Ce];by_cases hb:b=heap.length
    .subst hb;simp
    .rcases bC b heap.length with h1|h1
     .rw[A9 h1];simp[hb]
     .rw[cn XD,cn h1];simp[hb]
   .simp only[Fz.new,Fz.rws,RE.rs,List.foldl_nil,Ax,BP];by_cases hb:b=heap.length
    .subst hb;simp
    .rcases bC b heap.length with h1|h1
     .rw[A9 h1]
     .rw[cn XD,cn h1]
  .exact Xo
 next DK DP=>rw[DK,DP];obtain⟨h1,h2⟩:=adU eff.wr heap KT tm (aot h);exact⟨h1,h2,trivial,.inr rfl⟩
 .rename_i id r DK DP;split at h
  .rename_i q Ca hq;split at h
   .rename_i ho;rw[ne]at ho;cases h;rw[DK,DP,Ca];obtain⟨r1,r2,r3⟩:=rN hq;refine⟨?_,fun p hp=>Ym,⟨⟨q,r1,ho.1⟩,ho.2⟩,.inl ⟨rfl,rfl⟩⟩;refine Fz.ext' (fun _=>rfl) (fun b=> ?_) (fun b=> ?_) (fun b=>lN hq rfl rfl b)
    .simp only[Fz.wrs,Fz.rws,RE.rs,List.foldl_nil,YV,Fz.rw1,Ax,Ce,em];by_cases hb:id=b
     .exact Yg
     .simp[hb]
    .simp only[Fz.wrs,Fz.rws,RE.rs,List.foldl_nil,YV,Fz.rw1,Ax,BP,em];by_cases hb:id=b
     .subst hb;simp[r3]
     .simp[hb,show¬b=id from fun e=>hb e.symm]
   .exact Xo
  .exact Xo
 .rename_i rs DK DP;split at h
  .rename_i Ca;cases h;rw[DK,DP,Ca];refine⟨?_,fun p hp=>Ym,fun i hi=>(kg Fn).1,.inl ⟨rfl,rfl⟩⟩;refine Fz.ext' (fun t=> ?_) (fun b=> ?_) (fun b=> ?_) (fun b=> ?_)
   .rw[(bf _ _).2.1];rfl
   .rw[(bf _ _).1];simp only[Fz.wrs,List.foldl_nil,Ax,Ce];rcases bC b heap.length with h1|h1
    .rw[A9 h1]
    .rw[Bo h1,js,cn h1];cases rs[b-heap.length]? <;>rfl
   .show _=((Ax tm heap).rws (EW heap.length rs)).row b;rw[mJ];simp only[Ax,BP];rcases bC b heap.length with h1|h1
    .rw[A9 h1,aa Fn]
    .rw[Bo h1,js];by_cases h2:b<heap.length+rs.length
     .rw[ae ⟨h1,h2⟩,AH Fn];rfl
     .rw[aa Fn,cn Fn,cn h1];rfl
   .rw[(bf _ _).2.2];exact fR (fun ob IC=>by obtain⟨r,_,rfl⟩:=List.mem_map.1 IC;rfl) b
  .exact Xo
 .rename_i old r DK DP;split at h
  .rename_i q Ca hq;split at h
   .rename_i ho;rw[ne]at ho;cases h;rw[DK,DP,Ca];obtain⟨r1,r2,r3⟩:=rN hq;refine⟨?_,fun p hp=>Ym,⟨⟨q,r1,ho.1⟩,ho.2,(kg (ZK _)).1,by omega⟩,.inl ⟨rfl,rfl⟩⟩;refine Fz.ext' (fun _=>rfl) (fun b=> ?_) (fun b=> ?_) (fun b=>(fR (fun ob IC=>by rw[dA.1 IC];rfl) b).trans (lN hq rfl rfl b))
    .simp only[Fz.wrs,Fz.rws,RE.rs,List.foldl_nil,YV,Fz.rw1,Ax,Ce];rcases bC b heap.length with h1|h1
     .rw[A9 XC,em];by_cases hb:old=b
      .exact Yg
      .simp[hb]
     .rw[Bo XC,cn h1];simp only[List.length_set];cases h2:b-heap.length<;>simp
    .simp only[Fz.wrs,Fz.rws,RE.rs,List.foldl_nil,YV,Fz.rw1,Ax,BP];rcases bC b heap.length with h1|h1
     .rw[A9 XC,em,aa (show¬b=heap.length by omega)];by_cases hb:old=b
      .subst hb;simp[r3]
      .exact X8
     .rw[Bo XC,cn h1];simp only[List.length_set];by_cases h2:b=heap.length
      .subst h2;simp
      .rw[aa h2,aa (show¬b=old by omega)];rw[cn XD]
   .exact Xo
  .exact Xo
 .rename_i old q r DK DP;split at h
  .rename_i q0 Ca hq;split at h
   .rename_i ho;rw[ne]at ho;cases h;rw[DK,DP,Ca];obtain⟨r1,r2,r3⟩:=rN hq;refine⟨?_,fun p hp=>Ym,⟨⟨q0,r1⟩,by simpa using ho.1,by simpa using ho.2,(kg (ZK _)).1,by omega⟩,.inl ⟨rfl,rfl⟩⟩;refine Fz.ext' (fun _=>rfl) (fun b=> ?_) (fun b=> ?_) (fun b=>(fR (fun ob IC=>by rw[dA.1 IC];rfl) b).trans (lN hq rfl rfl b))
    .simp only[Fz.wrs,Fz.rws,RE.rs,List.foldl_nil,YV,Fz.rw1,Ax,Ce];rcases bC b heap.length with h1|h1
     .rw[A9 XC,em];by_cases hb:old=b
      .exact Yg
      .simp[hb]
     .rw[Bo XC,cn h1];simp only[List.length_set];cases h2:b-heap.length<;>simp
    .simp only[Fz.wrs,Fz.rws,RE.rs,List.foldl_nil,YV,Fz.rw1,Ax,BP];rcases bC b heap.length with h1|h1
     .rw[A9 XC,em,aa (show¬b=heap.length by omega)];by_cases hb:old=b
      .subst hb;simp[r3]
      .exact X8
     .rw[Bo XC,cn h1];simp only[List.length_set];by_cases h2:b=heap.length
      .subst h2;simp
      .rw[aa h2,aa (show¬b=old by omega)];rw[cn XD]
   .exact Xo
  .exact Xo
 .rename_i old q r DK DP;split at h
  .rename_i q0 Ca hq;split at h
   .rename_i ho;simp only[ne]at ho;cases h;rw[DK,DP,Ca];obtain⟨r1,r2,r3⟩:=rN hq;refine⟨?_,fun p hp=>Ym,⟨⟨q0,r1,ho.1⟩,by simpa using ho.2.1,ho.2.2,(kg (ZK _)).1,by omega⟩,.inl ⟨rfl,rfl⟩⟩;refine Fz.ext' (fun _=>rfl) (fun b=> ?_) (fun b=> ?_) (fun b=>(fR (fun ob IC=>by rw[dA.1 IC];rfl) b).trans (lN hq rfl rfl b))
    .simp only[Fz.wrs,Fz.rws,RE.rs,List.foldl_nil,YV,Fz.rw1,Ax,Ce];rcases bC b heap.length with h1|h1
     .rw[A9 XC,em];by_cases hb:old=b
      .exact Yg
      .simp[hb]
     .rw[Bo XC,cn h1];simp only[List.length_set];cases h2:b-heap.length<;>simp
    .simp only[Fz.wrs,Fz.rws,RE.rs,List.foldl_nil,YV,Fz.rw1,Ax,BP];rcases bC b heap.length with h1|h1
     .rw[A9 XC,em,aa (show¬b=heap.length by omega)];by_cases hb:old=b
      .subst hb;simp[r3]
      .exact X8
     .rw[Bo XC,cn h1];simp only[List.length_set];by_cases h2:b=heap.length
      .subst h2;simp
      .rw[aa h2,aa (show¬b=old by omega)];rw[cn XD]
   .exact Xo
  .exact Xo
 .rename_i old q tab r DK DP;split at h
  .rename_i q0 r0 Ca hq GR;split at h
   .rename_i ho;simp only[ne,ZO]at ho;have BM:tab≠old:=fun e=>by have:=ho.2.2;rw[e]at this;simp at this
    cases h;rw[DK,DP,Ca];obtain⟨r1,r2,r3⟩:=rN hq;obtain⟨t1,t2,t3⟩:=rN GR;have Ht:(heap.set old (.row q))[tab]? =ZA (.row r0):=by rw[em,aa (fun e=>BM e.symm)];exact GR
    refine⟨?_,fun p hp=>Ym,⟨⟨q0,r1,ho.1.1⟩,ho.1.2,⟨r0,t1,ho.2.1.1⟩,ho.2.1.2,BM⟩,.inl ⟨rfl,rfl⟩⟩;refine Fz.ext' (fun _=>rfl) (fun b=> ?_) (fun b=> ?_) (fun b=>(lN Ht rfl rfl b).trans (lN hq rfl rfl b))
    .simp only[Fz.wrs,Fz.rws,RE.rs,List.foldl_nil,YV,Fz.rw1,Ax,Ce,em,List.length_set];by_cases hb:tab=b
     .subst hb;simp only[bm,t3,GR]
     .simp only[aa hb];by_cases DU:old=b
      .subst DU;simp only[bm,r3,hq]
      .simp[DU]
    .simp only[Fz.wrs,Fz.rws,RE.rs,List.foldl_nil,YV,Fz.rw1,Ax,BP,em,List.length_set];by_cases hb:tab=b
     .subst hb;simp[t3]
     .simp only[aa hb,aa (fun e:b=tab=>hb e.symm)];by_cases DU:old=b
      .subst DU;simp[r3]
      .simp[DU,show¬b=old from fun e=>DU e.symm]
   .exact Xo
  .exact Xo
 .rename_i r DK DP;split at h
  .rename_i Ca;split at h
   .rename_i ho;cases h;rw[DK,DP,Ca];refine⟨?_,fun p hp=>Ym,⟨by simpa using ho,(kg (ZK _)).1⟩,.inl ⟨rfl,rfl⟩⟩;refine Fz.ext' (fun _=>rfl) (fun b=> ?_) (fun b=> ?_) (fun b=>fR (fun ob IC=>by rw[dA.1 IC];rfl) b)
    .simp only[Fz.wrs,Fz.rws,RE.rs,List.foldl_nil,YV,Fz.rw1,Ax,Ce];rcases bC b heap.length with h1|h1
     .rw[A9 h1]
     .rw[Bo h1,cn h1];cases h2:b-heap.length<;>simp
    .simp only[Fz.wrs,Fz.rws,RE.rs,List.foldl_nil,YV,Fz.rw1,Ax,BP];rcases bC b heap.length with h1|h1
     .rw[A9 h1,aa (show¬b=heap.length by omega)]
     .rw[Bo h1,cn h1];by_cases h2:b=heap.length
      .subst h2;simp
      .rw[aa h2,cn XD]
   .exact Xo
  .exact Xo
 .exact Xo
def St.app_ok{s s':St}(hn:s.n<=s.tmps.length){dst:Option Nat}(h:s.app dst eff=ZA s'):s'.fs=s.fs.app dst s.heap.length eff/\(s'.tmps.length=s.tmps.length/\s'.n=s.n)/\(∀d,dst=ZA d->d<s.n)/\(∀p∈eff.wr,∃c,C3 s.fs p.1 p.2.1=ZA c)/\Gb s.fs s.heap.length eff.re/\((eff.al=ZE/\eff.wr=[])\/eff.re=.none):=by
 unfold St.app at h;split at h
 .exact Xo
 .rename_i hp DM;obtain⟨h1,h2,h3,h4⟩:=adh DM (fun t=>(s.tmps.get? t).getD (.one .undef));have key:∀dst,(Ax (fun t=>(s.tmps.get? t).getD (.one .undef)) hp).put dst eff.val=s.fs.app dst s.heap.length eff:=fun dst=>by
   unfold Fz.app;rw[h1];rfl
  split at h
  .cases h;refine⟨?_,⟨rfl,rfl⟩,fun d hd=>(by cases hd),h2,h3,h4⟩;rw[<-key];refine Fz.ext' (fun t=> ?_) (fun _=>rfl) (fun _=>rfl) (fun _=>rfl);simp[Fz.put,St.fs,Ax]
  .rename_i d;split at h
   .rename_i hd;have hd:d<s.n:=by simpa[Nat.blt_eq]using hd
    cases h;refine⟨?_,⟨rfl,rfl⟩,fun d' Ib=>(by cases Ib;exact hd),h2,h3,h4⟩;rw[<-key];refine Fz.ext' (fun t=> ?_) (fun _=>rfl) (fun _=>rfl) (fun _=>rfl);simp only[Fz.put,St.fs,Ax,TM.get_set s.tmps eff.val hd];by_cases ht:d=t
    .subst ht;simp
    .simp[ht]
   .exact Xo
def Er(cx:Cx)(ops:Array Oper):List Oper->St->Kw->(List Rec->St->Kw->Tr)->Tr
 |[],s,kw,k=>k [] s kw
 |o::l,s,kw,k=>
   match o.guard with
   |none=>Lf cx (s.vw cx) o.op kw fun eff kw=>
     match s.app o.dst eff with
     |some s'=>Er cx ops l s' kw fun rs J0 kw=>k (⟨o,ZB,s.heap.length,eff⟩::rs) J0 kw
     |none=>.stuck 60
   |some (g,b)=>
     match((ops[g]?).bind (·.dst)).bind (fun t=>if Nat.blt t s.n then s.tmps.get? t else ZE)with
     |some (.one (.bool e))=>AK e (fun x kw=>
       if x==b then Lf cx (s.vw cx) o.op kw fun eff kw=>
        match s.app o.dst eff with
        |some s'=>Er cx ops l s' kw fun rs J0 kw=>k (⟨o,ZB,s.heap.length,eff⟩::rs) J0 kw
        |none=>.stuck 60
       else match s.app o.dst {val:=.one .undef}with
        |some s'=>Er cx ops l s' kw fun rs J0 kw=>k (⟨o,ZC,s.heap.length,{val:=.one .undef}⟩::rs) J0 kw
        |none=>.stuck 60) kw
     |some (.one .undef)=>match s.app o.dst {val:=.one .undef}with
      |some s'=>Er cx ops l s' kw fun rs J0 kw=>k (⟨o,ZC,s.heap.length,{val:=.one .undef}⟩::rs) J0 kw
      |none=>.stuck 60
     |_=>.stuck 61
section
variable {P:Program}{sp:Spec}{U:Env}{G:Env->E->Prop}{I:Nat->List Dt->Prop}{cx:Cx}{base:Nat}
def nM(hT:∀t i,(t,i)∈cx.ty->TIok P t i)(hS:∀s∈cx.sm,SmOk P sp s)(AR:∀s∈cx.sm,∀s'∈cx.sm,s.key=s'.key->s=s'){hw:World->Prop}(hW:sp.hw=hw){ops:Array Oper}:
  ∀(l:List Oper) (s:St) (kw:Kw) (k:List Rec->St->Kw->Tr),(Er cx ops l s kw k).holds sp G U I->Good sp cx.sm U kw->s.n<=s.tmps.length->
   ∃rs s' An,(k rs s' An).holds sp G U I/\Good sp cx.sm U An/\KwGe An kw/\rs.map (·.o)=l/\s'.fs=Ck rs s.fs/\(s'.tmps.length=s.tmps.length/\s'.n=s.n)/\∀(m:Nat) r,rs[m]? =ZA r->RecOk P hw U s.n base cx.fbs ops r (Ck (rs.take m) s.fs)
 |[],s,kw,k,h,hg,hn=>⟨[],s,kw,h,hg,.refl _,rfl,rfl,⟨rfl,rfl⟩,fun m r hm=>by simp at hm⟩
 |o::l,s,kw,k,h,hg,hn=>by
   have next:∀(want:Bool) (eff:Eff) (JX kw:Kw),KwGe kw JX->((match s.app o.dst eff with|some s'=>Er cx ops l s' kw fun rs J0 kw=>k (⟨o,want,s.heap.length,eff⟩::rs) J0 kw|none=>.stuck 60:Tr)).holds sp G U I->Good sp cx.sm U kw->
    (∀s',s.app o.dst eff=ZA s'->RecOk P hw U s.n base cx.fbs ops ⟨o,want,s.heap.length,eff⟩ s.fs)->
    ∃rs s' An,(k rs s' An).holds sp G U I/\Good sp cx.sm U An/\KwGe An JX/\rs.map (·.o)=o::l/\s'.fs=Ck rs s.fs/\(s'.tmps.length=s.tmps.length/\s'.n=s.n)/\∀(m:Nat) r,rs[m]? =ZA r->RecOk P hw U s.n base cx.fbs ops r (Ck (rs.take m) s.fs):=by
    intro want eff JX kw KZ h hg JN;split at h
    .rename_i s1 CH;obtain⟨e1,e2,e3,e4,_,_⟩:=St.app_ok hn CH;obtain⟨rs,s',An,h1,h2,h0,h3,h4,h5,h6⟩:=nM hT hS AR hW l s1 kw _ h hg (by rw[e2.1,e2.2];exact hn);refine⟨⟨o,want,s.heap.length,eff⟩::rs,s',An,h1,h2,h0.trans KZ,by simp[h3],?_,⟨by rw[h5.1,e2.1],by rw[h5.2,e2.2]⟩,fun m r hm=> ?_⟩
     .rw[h4,e1];rfl
     .cases m with
      |zero=>simp only[cD,bo]at hm;subst hm;exact JN s1 CH
      |succ m=>have:=h6 m r XT;rw[e1,e2.2]at this;exact this
    .exact h.elim
   have ran:∀(JX kw:Kw),KwGe kw JX->(Lf cx (s.vw cx) o.op kw fun eff kw=>
     match s.app o.dst eff with
     |some s'=>Er cx ops l s' kw fun rs J0 kw=>k (⟨o,ZB,s.heap.length,eff⟩::rs) J0 kw
     |none=>.stuck 60).holds sp G U I->Good sp cx.sm U kw->
    (match o.guard with
     |none=>True
     |some (g,b)=>∃t,(ops[g]?).bind (·.dst)=ZA t/\t<s.n/\∃e:E,s.fs.tmp t=.one (.bool e)/\ZB=(e.B U==b))->
    ∃rs s' An,(k rs s' An).holds sp G U I/\Good sp cx.sm U An/\KwGe An JX/\rs.map (·.o)=o::l/\s'.fs=Ck rs s.fs/\(s'.tmps.length=s.tmps.length/\s'.n=s.n)/\∀(m:Nat) r,rs[m]? =ZA r->RecOk P hw U s.n base cx.fbs ops r (Ck (rs.take m) s.fs):=by
    intro JX kw KZ h hg Ie;obtain⟨eff,Cc,h1,g1,l1,Aj⟩:=apR (P:=P) (o:=o) (base:=base) hT hS AR h hg;refine next ZB eff JX Cc (l1.trans KZ) h1 g1 (fun s1 CH=> ?_)
    obtain⟨e1,e2,e3,e4,e5,e6⟩:=St.app_ok hn CH;refine⟨fun _=>⟨s.vw cx,rfl,(hW▸Aj),⟨fun x hx v hv=>by rw[aiv s hn];exact hv,fun p hp c hc=>by rw[zf];exact hc,e4,fun _=>(kg (ZK _)).2,fun id IA r hr=>by rw[nE];exact hr,e5,rfl,e6⟩⟩,fun h=>Xo,?_,e3⟩;cases KV:o.guard with
    |none=>simp[KV]
    |some p=>obtain⟨g,b⟩:=p;simp only[KV];rw[KV]at Ie;obtain⟨t,h2,h3,e,h4,h5⟩:=Ie;exact⟨t,h2,h3,.inl ⟨e,h4,h5⟩⟩
   have Js:∀(JX kw:Kw) (g:Nat) (b:Bool),KwGe kw JX->o.guard=ZA (g,b)->(match s.app o.dst {val:=.one .undef}with
     |some s'=>Er cx ops l s' kw fun rs J0 kw=>k (⟨o,ZC,s.heap.length,{val:=.one .undef}⟩::rs) J0 kw
     |none=>.stuck 60:Tr).holds sp G U I->Good sp cx.sm U kw->
    (∃t,(ops[g]?).bind (·.dst)=ZA t/\t<s.n/\((∃e:E,s.fs.tmp t=.one (.bool e)/\ZC=(e.B U==b))\/(s.fs.tmp t=.one .undef/\ZC=ZC)))->
    ∃rs s' An,(k rs s' An).holds sp G U I/\Good sp cx.sm U An/\KwGe An JX/\rs.map (·.o)=o::l/\s'.fs=Ck rs s.fs/\(s'.tmps.length=s.tmps.length/\s'.n=s.n)/\∀(m:Nat) r,rs[m]? =ZA r->RecOk P hw U s.n base cx.fbs ops r (Ck (rs.take m) s.fs):=by
    intro JX kw g b KZ KV h hg Ie;refine next ZC _ JX kw KZ h hg (fun s1 CH=> ?_)
    obtain⟨e1,e2,e3,e4,_,_⟩:=St.app_ok hn CH;refine⟨fun h=>Xo,fun _=>rfl,?_,e3⟩;simp only[KV];obtain⟨t,h1,h2,h3⟩:=Ie;exact⟨t,h1,h2,h3.imp _root_.id (fun h=>⟨h.1,trivial⟩)⟩
   have H6:∀(g t:Nat) v,((ops[g]?).bind (·.dst)).bind (fun t=>if Nat.blt t s.n then s.tmps.get? t else ZE)=ZA v->∃t,(ops[g]?).bind (·.dst)=ZA t/\t<s.n/\s.fs.tmp t=v:=by
    intro g _ v h;rw[de]at h;obtain⟨t,h1,h2⟩:=h;split at h2
    next ht=>exact⟨t,h1,by simpa[Nat.blt_eq]using ht,by simp[St.fs,Ax,h2]⟩
    .exact XU
   unfold Er at h;split at h
   next KV=>exact ran kw kw (.refl _) h hg (by simp[KV])
   .rename_i g b KV;split at h
    .rename_i e he;obtain⟨t,h1,h2,h3⟩:=H6 g 0 _ he;obtain⟨Cc,h4,g4,_,l4⟩:=aO _ _ _ h hg;split at h4
     next hb=>exact ran kw Cc l4 h4 g4 (by simp only[KV];exact⟨t,h1,h2,e,h3,hb.symm⟩)
     next hb=>exact Js kw Cc g b l4 KV h4 g4 ⟨t,h1,h2,.inl ⟨e,h3,by simpa using hb⟩⟩
    next he=>obtain⟨t,h1,h2,h3⟩:=H6 g 0 _ he;exact Js kw kw g b (.refl _) KV h hg ⟨t,h1,h2,.inr ⟨h3,rfl⟩⟩
    .exact h.elim
end
end Go.Proofs.YtgolejfhoefeaaaGreatDoor
