import Derived.Test.YtgolejfhoefeaabGreatDoorSyT
import Derived.Orders
import Derived.RangeFuncRecord
import Derived.OrdersIn
import Derived.LoopNIn
import Derived.RangeFuncLeaves
set_option maxRecDepth 100000
set_option maxHeartbeats 8000000
set_option linter.defProp false
set_option linter.unusedVariables false
set_option linter.unusedSimpArgs false
namespace Go.Proofs.YtgolejfhoefeaabGreatDoor
open Option renaming some->ZA,none->ZD,map_some->ZK
open Bool renaming true->ZB,false->ZC,not_eq_true'->ZL
open Sem renaming run_bind->ZH
open Nat renaming le_refl->YJ,add_zero->ZP,add_assoc->ZU
open Option.some renaming inj->YL
open List renaming length_cons->YM,cons_append->YN,mem_cons->ZN,map_cons->YR,foldl_cons->YT,length_set->YU,mem_append_right->ZW,mem_append_left->YZ
open Go.Region renaming binds->ZX
open Go.RowKit
variable {w w':World}{a:Act}{s s':SV}{r q:RowOb}{j:J}{o:Oper}{k nid b i old t:Nat}{α:Type}{ops:Array Oper}{x:Operand}{v:Value}{vs:List Value}{z:List (Nat×Obj)}{eff:Eff}{y:Lp}
structure Fz where
 tmp:Nat->V
 box:Nat->Option (List C×Nat)
 row:Nat->Option (Option RowOb)
 lp:Nat->Option Lp
def Fz.ext'{F F':Fz}(h1:∀t,F.tmp t=F'.tmp t)(h2:∀b,F.box b=F'.box b)(h3:∀b,F.row b=F'.row b)(h4:∀b,F.lp b=F'.lp b):F=F':=by cases F;cases F';simp only[Fz.mk.injEq];exact⟨funext h1,funext h2,funext h3,funext h4⟩
def Fz.put(F:Fz)(dst:Option Nat)(v:V):Fz:={F with tmp:=fun t=>if dst=ZA t then v else F.tmp t}
def Fz.new(F:Fz)(nid:Nat)(x:List C×Nat):Fz:={F with box:=fun b=>if b=nid then ZA x else F.box b}
def Fz.wr(F:Fz)(p:Nat×Nat×C):Fz:={F with box:=fun b=>if b=p.1 then(F.box b).map (fun x=>(x.1.set p.2.1 p.2.2,x.2))else F.box b}
def Fz.wrs(F:Fz)(l:List (Nat×Nat×C)):Fz:=l.foldl Fz.wr F
def Fz.rw1(F:Fz)(p:Nat×Option RowOb):Fz:={F with row:=fun b=>if b=p.1 then ZA p.2 else F.row b}
def Fz.rws(F:Fz)(l:List (Nat×Option RowOb)):Fz:=l.foldl Fz.rw1 F
def Fz.app(F:Fz)(dst:Option Nat)(nid:Nat)(eff:Eff):Fz:=
 ((match eff.al with|some x=>F.new nid x|none=>F.wrs eff.wr).rws (eff.re.rs nid)).put dst eff.val
def OQ(F:Fz)(n:Nat):Operand->Option V
 |.tmp t=>if t<n then(match F.tmp t with|.top=>ZD|v=>ZA v)else ZD
 |.const v=>ofValue v
 |.global _=>ZD
 |.func f=>ZA (.one (.fn f))
def CX(F:Fz)(b o:Nat):Option C:=(F.box b).bind fun x=>x.1[o]?
def O8(F:Fz)(id:Nat):Option RowOb:=(F.row id).bind fun x=>x
structure Rf where
 ps:Array Tmp
 assign:Code
 body:Code
 tmps:Array Value
 l:Nat
structure Wb where
 w:World
 M:List Nat
 top:Bool
 rf:Option Rf
 hw:World->Prop
 hh:∀w',Ext w w'->hw w'
abbrev Wb.heap(b:Wb):Array Obj:=b.w.heap
def Wb.ds(b:Wb):List Deferred:=if b.top then b.M.map fun D=>{target:=.collected D,args:= #[]}else[]
def LS.st:LS->LoopState
 |.ready=>.ready
 |.busy=>.busy
 |.done=>.done
def Sig.code:Sig->Code
 |.normal=>.skip
 |.exit id=>.exit id
 |.ret=>.ret
structure LoopIs(rf:Rf)(y:Lp)(o:Loop):Prop where
 st:o.state=y.st.st
 pend:o.pending=y.pend.map Sig.code
 ps:o.params=rf.ps
 assign:o.assign=rf.assign
 body:o.body=rf.body
 tmps:o.tmps=rf.tmps
structure Frz(ρ:Env)(W0:Wb)(F:Fz)(j:J)(w:World):Prop where
 at':∀k o,j.g.z k=ZA o->w.heap[k]? =ZA o/\(B6 o=ZC->W0.heap.size<=k)
 box:∀k o b,j.g.z k=ZA o->j.b b≠ZA k
 row:∀k o id r s,j.g.z k=ZA o->F.row id=ZA (ZA r)->j.s id=ZA s->(r.own=ZB\/B6 o=ZC)->s.blk r.own≠ZA k
 md:∀D∈W0.M,j.g.z D=ZA (.deferred (ZA []))
 nd:W0.M.Nodup
 lp:∀id y,F.lp id=ZA y->∃rf o,W0.rf=ZA rf/\j.g.y id=ZA rf.l/\j.g.z rf.l=ZA (.loop o)/\LoopIs rf y o
 nol:∀id,F.row id=ZD->F.lp id=ZD->j.g.y id=ZD
 ev:∀id r s,F.row id=ZA (ZA r)->j.s id=ZA s->Zin j s
 tb:∀id r s,F.row id=ZA (ZA r)->r.kd=.tab->j.s id=ZA s->TbAt ρ j w s r
def Frz.lt{ρ:Env}{W0:Wb}{F:Fz}(h:Frz ρ W0 F j w){o:Obj}(hz:j.g.z k=ZA o):k<w.heap.size:=(fL.1 (h.at' k o hz).1).1
def Frz.step{ρ:Env}{W0:Wb}{F F':Fz}{j':J}(h:Frz ρ W0 F j w)(hg:j'.g=j.g)(hl:F'.lp=F.lp)(hn:∀id,F'.row id=ZD->F.row id=ZD)
  (hh:∀k o,j.g.z k=ZA o->w'.heap[k]? =w.heap[k]?) (hb:∀b k,j'.b b=ZA k->j.b b=ZA k\/w.heap.size<=k)
  (hr:∀id r s,F'.row id=ZA (ZA r)->j'.s id=ZA s->(∃GH r0 s0,F.row GH=ZA (ZA r0)/\j.s GH=ZA s0/\(r.own=ZB->r0.own=ZB)/\∀k,s.blk r.own=ZA k->s0.blk r0.own=ZA k\/w.heap.size<=k)\/(∀k,s.blk r.own=ZA k->w.heap.size<=k)) (hv:∀id r s,F'.row id=ZA (ZA r)->j'.s id=ZA s->Zin j s) (ht:∀id r s,F'.row id=ZA (ZA r)->r.kd=.tab->j'.s id=ZA s->TbAt ρ j' w' s r):Frz ρ W0 F' j' w' where
 at' k o hz:=by rw[hg]at hz;rw[hh k o hz];exact h.at' k o hz
 box k o b hz e:=by
  rw[hg]at hz;rcases hb b k e with h1|h1
  .exact h.box k o b hz h1
  .have:=h.lt hz;omega
 row k o id r s hz hF hs hc e:=by
  rw[hg]at hz;have:=h.lt hz;rcases hr id r s hF hs with⟨GH,r0,s0,h1,h2,h3,h4⟩|h1
  .rcases h4 k e with h4|h4
   .exact h.row k o GH r0 s0 hz h1 h2 (hc.imp h3 _root_.id) h4
   .exact Fn
  .have:=h1 k e;omega
 md D hD:=by rw[hg];exact h.md D hD
 nd:=h.nd
 lp id y hy:=by rw[hg];rw[hl]at hy;exact h.lp id y hy
 nol id hF hy:=by rw[hg];rw[hl]at hy;exact h.nol id (hn id hF) hy
 ev id r s hF hs:=fun p hp=>by rw[hg];exact hv id r s hF hs p hp
 tb:=ht
structure Rel(ρ:Env)(n:Nat)(X:List Value)(W0:Wb)(fb:Nat->Option (List C))(F:Fz)(j:J)(a:Act)(w:World):Prop where
 defers:a.defers=W0.ds
 size:a.tmps.size=n
 tmp:∀t,t<n->∃v,a.tmps[t]? =ZA v/\(F.tmp t=.top\/(F.tmp t).den ρ j=ZA v)
 sav:∀(i:Nat) v,X[i]? =ZA v->F.tmp (n+i)=.top\/(F.tmp (n+i)).den ρ j=ZA v
 box:∀b cs ty,F.box b=ZA (cs,ty)->∃k vs,j.b b=ZA k/\W0.heap.size<=k/\Ad ρ j cs=ZA vs/\w.heap[k]? =ZA (.cells vs.toArray ty (0,0))
 nob:∀b,F.box b=ZD->j.b b=ZD
 inj:∀b b' k,j.b b=ZA k->j.b b'=ZA k->b=b'
 row:∀b r,F.row b=ZA (ZA r)->∃s,j.s b=ZA s/\RowOk ρ W0.heap.size w s r
 nor:∀b,F.row b=ZD->j.s b=ZD
 sep:∀b b' k r s,j.b b=ZA k->F.row b'=ZA (ZA r)->j.s b'=ZA s->s.blk r.own≠ZA k
 rsep:∀b b' r r' s s' k,F.row b=ZA (ZA r)->r.own=ZB->F.row b'=ZA (ZA r')->j.s b=ZA s->j.s b'=ZA s'->s.blk r.own=ZA k->s'.blk r'.own=ZA k->b=b'
 fb:∀b cs,fb b=ZA cs->∃k vs,j.f b=ZA k/\k<W0.heap.size/\Ad ρ j cs=ZA vs/\∀o v,vs[o]? =ZA v->jI cs o=ZB->w.cell? ⟨k,o,ZD⟩=ZA v
 ext:Ext W0.w w
 gs:Frz ρ W0 F j w
section
variable {P:Program}{ρ:Env}{n:Nat}{X:List Value}{W0:Wb}{fb:Nat->Option (List C)}{F:Fz}{j:J}{a:Act}{w:World}
def Rel.lt(h:Rel ρ n X W0 fb F j a w)(hb:j.b b=ZA k):∃cs ty vs,F.box b=ZA (cs,ty)/\W0.heap.size<=k/\Ad ρ j cs=ZA vs/\w.heap[k]? =ZA (.cells vs.toArray ty (0,0))/\k<w.heap.size:=by
 cases hF:F.box b with
 |none=>rw[h.nob b hF]at hb;cases hb
 |some x=>
   obtain⟨cs,ty⟩:=x;obtain⟨k',vs,h1,h2,h3,h4⟩:=h.box b cs ty hF;rw[hb]at h1;cases h1;refine⟨cs,ty,vs,rfl,h2,h3,h4,?_⟩;rcases bn k w.heap.size with Ap|Dp
   .exact Ap
   .rw[Array.getElem?_eq_none Dp]at h4;cases h4
def kH{o ty:Nat}(h:w.heap[k]? =ZA (.cells vs.toArray ty (0,0))):w.cell? ⟨k,o,ZD⟩=vs[o]? :=by simp[World.cell?,h]
def ad2{o ty:Nat}(h:w.heap[k]? =ZA (.cells vs.toArray ty (0,0))):w.frozen? ⟨k,o,ZD⟩=ZC:=by simp[World.frozen?,h]
def Rel.eval(h:Rel ρ n X W0 fb F j a w){v:V}(hx:OQ F n x=ZA v):v.den ρ j=ZA (a.eval x):=by
 cases x with
 |tmp t=>
   simp only[OQ]at hx;split at hx
   .rename_i ht;split at hx
    .cases hx
    .rename_i Bg;cases hx;obtain⟨u,h1,h2⟩:=h.tmp t ht;rcases h2 with h2|h2
     .exact ak h2 Bg
     .rw[h2];simp[Act.eval,iz,h1]
   .cases hx
 |const v0=>exact adN hx ρ j
 |global g=>cases hx
 |func f=>cases hx;rfl
def Ext.grown'{w0:World}{row:Option Nat}(h:Ext w0 w)(hg:w.grownBy w' row)(hr:∀k,row=ZA k->w0.heap.size<=k):Ext w0 w':=Below.grown h hg h.size hr
def Ext.block'{w0:World}(h:Ext w0 w)(k:Nat)(hk:k<w0.heap.size):w.heap[k]? =w0.heap[k]? :=h.block k hk
def ab1{base ty Bj n:Nat}{xs:List Value}(h:w.ownsRow base ty Bj s.v n xs)(hb:∀k,s.v.ownBlock=ZA k->w'.heap[k]? =w.heap[k]?):w'.ownsRow base ty Bj s.v n xs:=by
 refine⟨h.1,?_⟩;rcases h.2 with h'|⟨g,Fg,cur,hv,h1,h2,h3⟩
 .exact .inl h'
 .exact .inr ⟨g,Fg,cur,hv,h1,by rw[hb g (by rw[hv];rfl)];exact h2,h3⟩
def SlOk.kept{base:Nat}(h:SlOk ρ base w s r)(BC:w.heap.size<=w'.heap.size)(hb:∀k,s.blk r.own=ZA k->w'.heap[k]? =w.heap[k]?):SlOk ρ base w' s r:=⟨h.n,h.rows,h.pos,fun k hk=>nD (h.lt k hk) BC,fun ho=>ab1 (h.own ho) (by rw[ho]at hb;exact hb),h.rd.kept (fun k hk=>hb k (bI hk))⟩
def SlOk.base{b1 b2:Nat}(h:SlOk ρ b1 w s r)(hb:b2<=b1):SlOk ρ b2 w s r:=⟨h.n,h.rows,h.pos,h.lt,fun ho=>(h.own ho).mono hb,h.rd⟩
def EvOk.kept{base:Nat}(h:EvOk ρ base w s r)(BC:w.heap.size<=w'.heap.size)(hb:∀k,s.blk r.own=ZA k->w'.heap[k]? =w.heap[k]?):EvOk ρ base w' s r:=by obtain⟨ins,h1,h2,h3,h4⟩:=h.at';exact⟨h.ks,h.n,h.rows,fun k hk=>nD (h.lt k hk) BC,h.zb,ins,h1,fun ho=>ab1 (h2 ho) (by rw[ho]at hb;exact hb),h3.kept (fun k hk=>hb k (bI hk)),h4⟩
def RowOk.kept{base:Nat}(h:RowOk ρ base w s r)(BC:w.heap.size<=w'.heap.size)(hb:∀k,s.blk r.own=ZA k->w'.heap[k]? =w.heap[k]?):RowOk ρ base w' s r:=by
 rcases h.cases with⟨hk,h⟩|⟨hk,h⟩|⟨hk,h⟩
 .exact(h.kept BC hb).row hk
 .obtain⟨g,ob,h1,h2,h3,h4⟩:=h.at';exact HdOk.row ⟨h.own,h.rows,h.c,g,ob,h1,h2,by rw[hb g (h.blkAt h1 r.own)];exact h3,h4⟩ hk
 .exact(h.kept BC hb).row hk
def RowOk.base{b1 b2:Nat}(h:RowOk ρ b1 w s r)(hb:b2<=b1):RowOk ρ b2 w s r:=by
 rcases h.cases with⟨hk,h⟩|⟨hk,h⟩|⟨hk,h⟩
 .exact(h.base hb).row hk
 .obtain⟨g,ob,h1,h2,h3,h4⟩:=h.at';exact HdOk.row ⟨h.own,h.rows,h.c,g,ob,h1,cO hb h2,h3,h4⟩ hk
 .obtain⟨ins,h1,h2,h3,h4⟩:=h.at';exact EvOk.row ⟨h.ks,h.n,h.rows,h.lt,fun ho p hp=>cO hb (h.zb ho p hp),ins,h1,fun ho=>(h2 ho).mono hb,h3,h4⟩ hk
def Rel.tabBlk(h:Rel ρ n X W0 fb F j a w){id g:Nat}(hF:F.row id=ZA (ZA r))(hk:r.kd=.tab)(hs:j.s id=ZA s)(ha:s.a=ZA ⟨g,0,ZD⟩):s.blk r.own=ZA g/\g<w.heap.size:=by obtain⟨s0,h1,h2⟩:=h.row id r hF;rw[hs]at h1;cases h1;have h3:=h2.2.1 Yq;have h4:=h3.blkAt ha r.own;exact⟨h4,h2.lt g h4⟩
def Rel.tabs(h:Rel ρ n X W0 fb F j a w){j':J}(hj:j'.s=j.s)(hg:j'.g=j.g)(hw:∀id r s g,F.row id=ZA (ZA r)->j.s id=ZA s->s.blk r.own=ZA g->w'.heap[g]? =w.heap[g]?):∀id r s,F.row id=ZA (ZA r)->r.kd=.tab->j'.s id=ZA s->TbAt ρ j' w' s r:=fun id r s h1 h2 h3=>
 (h.gs.tb id r s h1 h2 (by rw[<-hj];exact h3)).mono rfl rfl (fun k o _ hz=>by rw[hg];exact hz) (fun g ha=>hw id r s g h1 (by rw[<-hj];exact h3) (h.tabBlk h1 h2 (by rw[<-hj];exact h3) ha).1)
def Rel.kept(h:Rel ρ n X W0 fb F j a w)(hx:Ext W0.w w')(BC:w.heap.size<=w'.heap.size)
  (hb:∀b k,j.b b=ZA k->w'.heap[k]? =w.heap[k]?) (hr:∀b r s k,F.row b=ZA (ZA r)->j.s b=ZA s->s.blk r.own=ZA k->w'.heap[k]? =w.heap[k]?) (hz:∀k o,j.g.z k=ZA o->w'.heap[k]? =w.heap[k]?):Rel ρ n X W0 fb F j a w' where
 defers:=h.defers
 size:=h.size
 tmp:=h.tmp
 sav:=h.sav
 box b cs ty hF:=by obtain⟨k,vs,h1,h2,h3,h4⟩:=h.box b cs ty hF;exact⟨k,vs,h1,h2,h3,by rw[hb b k h1];exact h4⟩
 nob:=h.nob
 inj:=h.inj
 row b r hF:=by obtain⟨s,h1,h2⟩:=h.row b r hF;exact⟨s,h1,h2.kept BC (fun k hk=>hr b r s k hF h1 hk)⟩
 nor:=h.nor
 sep:=h.sep
 rsep:=h.rsep
 fb b cs hF:=by obtain⟨k,vs,h1,h2,h3,h4⟩:=h.fb b cs hF;refine⟨k,vs,h1,h2,h3,fun o v ho hs=> ?_⟩;have h5:=h4 o v ho hs;have e1:w'.heap[k]? =w.heap[k]? :=(hx.block k h2).trans (h.ext.block k h2).symm;rw[World.cell?_of_block (a:=⟨k,o,ZD⟩) e1];exact h5
 ext:=hx
 gs:=h.gs.step rfl rfl (fun _ h=>h) hz (fun _ _ h=>.inl h) (fun id r s h1 h2=>.inl ⟨id,r,s,h1,h2,fun h=>h,fun _ h=>.inl h⟩) h.gs.ev (h.tabs rfl rfl hr)
def Rel.more(h:Rel ρ n X W0 fb F j a w){w1:World}(hx:Ext w w1):Rel ρ n X W0 fb F j a w1:=
 h.kept (h.ext.trans hx) hx.size (fun b k hk=>by
  obtain⟨_,_,_,_,_,_,_,Ap⟩:=h.lt hk;exact hx.block k Ap) (fun b r s k hF hs hk=>by
  obtain⟨s',h1,h2⟩:=h.row b r hF;rw[hs]at h1;cases h1;exact hx.block k (h2.lt k hk)) (fun k o hz=>hx.block k (h.gs.lt hz))
def Rel.put(h:Rel ρ n X W0 fb F j a w){dst:Option Nat}{v:V}{u:Value}(hv:v.den ρ j=ZA u)(hd:∀d,dst=ZA d->d<n):Rel ρ n X W0 fb (F.put dst v) j (a.put dst u) w where
 defers:=by cases dst<;>simp[Act.put,h.defers]
 size:=by cases dst<;>simp[Act.put,h.size]
 tmp t ht:=by
  cases dst with
  |none=>simpa[Fz.put,Act.put]using h.tmp t ht
  |some d=>
    by_cases hdt:d=t
    .subst hdt;exact⟨u,by simp[Act.put,Array.getElem?_setIfInBounds,h.size,ht],.inr (by simp[Fz.put,hv])⟩
    .obtain⟨x,h1,h2⟩:=h.tmp t ht;exact⟨x,by simp[Act.put,Array.getElem?_setIfInBounds,hdt,h1],by simpa[Fz.put,hdt]using h2⟩
 sav i v hi:=by
  have:¬dst=ZA (n+i):=fun e=>by have:=hd _ e;omega
  simpa only[Fz.put,this,dz]using h.sav i v hi
 box:=h.box
 nob:=h.nob
 inj:=h.inj
 row:=h.row
 nor:=h.nor
 sep:=h.sep
 rsep:=h.rsep
 fb:=h.fb
 ext:=h.ext
 gs:=h.gs.step rfl rfl (fun _ h=>h) (fun _ _ _=>rfl) (fun _ _ h=>.inl h) (fun id r s h1 h2=>.inl ⟨id,r,s,h1,h2,fun h=>h,fun _ h=>.inl h⟩) h.gs.ev h.gs.tb
def Rel.new(h:Rel ρ n X W0 fb F j a w){ty:Nat}{cs:List C}(hd:Ad ρ j cs=ZA vs)(hn:F.box nid=ZD):
  Rel ρ n X W0 fb (F.new nid (cs,ty)) {j with b:=fun b=>if b=nid then ZA w.heap.size else j.b b} a (w.alloc (.cells vs.toArray ty)):=by
 have hs:Sub j {j with b:=fun b=>if b=nid then ZA w.heap.size else j.b b}:=⟨fun b k hb=>by
  have:b≠nid:=fun e=>by rw[e,h.nob nid hn]at hb;cases hb
  simp[this,hb],fun _ _ hb=>hb,fun _ _ hb=>hb,fun _ _ hb=>hb⟩
 have h':=h.more ((Ext.refl w).alloc (.cells vs.toArray ty));refine⟨h.defers,h.size,fun t ht=> ?_,fun i v hi=>(h.sav i v hi).imp id (V.den_sub hs),fun b Gc N6 hF=> ?_,fun b hF=> ?_,fun b b' k h1 h2=> ?_,h'.row,h'.nor,fun b b' k r s h1 h2 h3 h4=> ?_,h'.rsep,fun b cs hF=> ?_,h'.ext,h.gs.step rfl rfl (fun _ h=>h) (fun k o hz=>((Ext.refl w).alloc (.cells vs.toArray ty)).block k (h.gs.lt hz)) (fun b k hb=> ?_) (fun id r s h1 h2=>.inl ⟨id,r,s,h1,h2,fun h=>h,fun _ h=>.inl h⟩) h.gs.ev (h.tabs (j':={j with b:=fun b=>if b=nid then ZA w.heap.size else j.b b}) rfl rfl (fun id r s g h1 h2 h3=>((Ext.refl w).alloc (.cells vs.toArray ty)).block g (by obtain⟨s',h5,h6⟩:=h.row id r h1;rw[h2]at h5;cases h5;exact h6.lt g h3)))⟩
 .obtain⟨v,h1,h2⟩:=h.tmp t ht;exact⟨v,h1,h2.imp id (V.den_sub hs)⟩
 .by_cases hb:b=nid
  .simp only[Fz.new,hb,aW,aU,Prod.mk.injEq]at hF;obtain⟨rfl,rfl⟩:=hF;exact⟨w.heap.size,vs,by simp[hb],h.ext.size,bF hs hd,by exact heap_alloc_new _ _⟩
  .simp only[Fz.new,hb,dz]at hF;obtain⟨k,us,h1,h2,h3,h4⟩:=h'.box b Gc N6 hF;exact⟨k,us,by simp[hb,h1],h2,bF hs h3,h4⟩
 .by_cases hb:b=nid
  .simp[Fz.new,hb]at hF
  .simp only[Fz.new,hb,dz]at hF;simp[hb,h.nob b hF]
 .by_cases hb:b=nid<;>by_cases D8:b'=nid<;>simp only[hb,D8,aW,dz]at h1 h2
  .rw[hb,D8]
  .obtain⟨_,_,_,_,_,_,_,Ap⟩:=h.lt h2;cases h1;omega
  .obtain⟨_,_,_,_,_,_,_,Ap⟩:=h.lt h1;cases h2;omega
  .exact h.inj b b' k h1 h2
 .by_cases hb:b=nid
  .simp only[hb,aW,aU]at h1;obtain⟨s',h5,h6⟩:=h.row b' r h2;rw[h3]at h5;cases h5;have:=h6.lt k h4;omega
  .simp only[hb,dz]at h1;exact h.sep b b' k r s h1 h2 h3 h4
 .obtain⟨k,us,h1,h2,h3,h4⟩:=h'.fb b cs hF;exact⟨k,us,h1,h2,bF hs h3,h4⟩
 .dsimp only at hb;split at hb
  .cases hb;exact .inr (YJ _)
  .exact .inl hb
def Rel.wr1(h:Rel ρ n X W0 fb F j a w){o:Nat}{c:C}(hk:j.b b=ZA k)(hv:c.den ρ j=ZA v):Rel ρ n X W0 fb (F.wr (b,o,c)) j a (w.setCell ⟨k,o,ZD⟩ v):=by
 obtain⟨cs,ty,vs,hF,Dp,hd,hh,Ap⟩:=h.lt hk;have Dy:∀k',k'≠k->(w.setCell ⟨k,o,ZD⟩ v).heap[k']? =w.heap[k']? :=fun k' Bg=>heap_setCell_other w ⟨k,o,ZD⟩ k' v Bg;have hx:Ext W0.w (w.setCell ⟨k,o,ZD⟩ v):=h.ext.setCell Dp v;have BC:w.heap.size<=(w.setCell ⟨k,o,ZD⟩ v).heap.size:=by simp[World.setCell]
 refine⟨h.defers,h.size,h.tmp,h.sav,fun b' Gc N6 Bv=> ?_,fun b' Bv=> ?_,h.inj,fun b' r Bv=> ?_,h.nor,h.sep,h.rsep,fun b' Gc Bv=> ?_,hx,h.gs.step rfl rfl (fun _ h=>h) (fun k' o' hz=>Dy k' (fun e=>h.gs.box k' o' b hz (e▸hk))) (fun _ _ h=>.inl h) (fun id r s h1 h2=>.inl ⟨id,r,s,h1,h2,fun h=>h,fun _ h=>.inl h⟩) h.gs.ev (h.tabs rfl rfl (fun id r s g h1 h2 h3=>Dy g (fun e=>h.sep b id k r s hk h1 h2 (e▸h3))))⟩
 .by_cases hb:b'=b
  .subst hb;simp only[Fz.wr,aW,hF,ZK,aU,Prod.mk.injEq]at Bv;obtain⟨rfl,rfl⟩:=Bv;refine⟨k,vs.set o v,hk,Dp,vq hd o c v hv,?_⟩;have:=heap_setCell_same w k o vs.toArray ty v hh;simpa using this
  .simp only[Fz.wr,hb,dz]at Bv;obtain⟨k',us,h1,h2,h3,h4⟩:=h.box b' Gc N6 Bv;exact⟨k',us,h1,h2,h3,by rw[Dy k' (fun e=>hb (h.inj b' b k (by rw[h1,e]) hk))];exact h4⟩
 .by_cases hb:b'=b
  .subst hb;simp[Fz.wr,hF]at Bv
  .simp only[Fz.wr,hb,dz]at Bv;exact h.nob b' Bv
 .obtain⟨s,h1,h2⟩:=h.row b' r Bv;exact⟨s,h1,h2.kept BC (fun k' BZ=>Dy k' (fun e=>h.sep b b' k r s hk Bv h1 (e▸BZ)))⟩
 .obtain⟨k',us,h1,h2,h3,h4⟩:=h.fb b' Gc Bv;refine⟨k',us,h1,h2,h3,fun o' v' ho Bi=> ?_⟩;rw[World.cell?_of_block (a:=⟨k',o',ZD⟩) (Dy k' Fn)];exact h4 o' v' ho Bi
def Rel.wrs:∀{l:List (Nat×Nat×C)} {F:Fz} {w w':World},Rel ρ n X W0 fb F j a w->tE ρ j l w w'->Rel ρ n X W0 fb (F.wrs l) j a w'
 |[],F,w,w',h,hw=>by have e:w'=w:=hw;subst e;exact h
 |(b,o,c)::l,F,w,w',h,hw=>by obtain⟨k,v,hk,hv,hw'⟩:=hw;exact Rel.wrs (F:=F.wr (b,o,c)) (h.wr1 hk hv) hw'
def Rel.turn(h:Rel ρ n X W0 fb F j a w){id:Nat}(hq:F.row id=ZA (ZA q))(AJ:q.own=ZB)(hs:j.s id=ZA s)(hg:w.grownBy w' s.v.ownBlock):
  Ext W0.w w'/\(∀b k,j.b b=ZA k->w'.heap[k]? =w.heap[k]?)/\(∀b r s' k,b≠id->F.row b=ZA (ZA r)->j.s b=ZA s'->s'.blk r.own=ZA k->w'.heap[k]? =w.heap[k]?)/\(∀k o,j.g.z k=ZA o->w'.heap[k]? =w.heap[k]?):=by
 obtain⟨s0,h1,h2⟩:=h.row id q hq;rw[hs]at h1;cases h1;refine⟨h.ext.grown' hg (fun k hk=>(h2.owned AJ k hk).2),fun b k hb=> ?_,fun b r s' k Bg hF Bi hk=> ?_,fun k o hz=>hg.block k (h.gs.lt hz) (fun e=>h.gs.row k o id q s hz hq hs (.inl AJ) (by rw[AJ];exact e.symm))⟩
 .obtain⟨_,_,_,_,_,_,_,Ap⟩:=h.lt hb;exact hg.block k Ap (fun e=>h.sep b id k q s hb hq hs (by rw[AJ];exact e.symm))
 .obtain⟨s1,h3,h4⟩:=h.row b r hF;rw[Bi]at h3;cases h3;exact hg.block k (h4.lt k hk) (fun e=>Bg (h.rsep id b q r s s' k hq AJ hF hs Bi (by rw[AJ];exact e.symm) hk).symm)
end
section
variable {P:Program}{ρ:Env}{n:Nat}{X:List Value}{W0:Wb}{fb:Nat->Option (List C)}{F:Fz}{j:J}{a:Act}{w:World}
def FK(F:Fz)(nid:Nat):RE->Prop
 |.none=>True
 |.set id r=>(∃q,F.row id=ZA (ZA q)/\q.own=ZB)/\r.own=ZB
 |.mk rs=>∀i,i<rs.length->F.row (nid+i)=ZD
 |.app old r=>(∃q,F.row old=ZA (ZA q)/\q.own=ZB)/\r.own=ZB/\F.row nid=ZD/\nid≠old
 |.view old q r=>(∃q0,F.row old=ZA (ZA q0))/\q.own=ZC/\r.own=ZC/\F.row nid=ZD/\nid≠old
 |.peek r=>r.own=ZC/\F.row nid=ZD
 |.frz old q r=>(∃q0,F.row old=ZA (ZA q0)/\q0.own=ZB)/\q.own=ZC/\r.own=ZB/\F.row nid=ZD/\nid≠old
 |.tset old q tab r=>(∃q0,F.row old=ZA (ZA q0)/\q0.own=ZB)/\q.own=ZC/\(∃r0,F.row tab=ZA (ZA r0)/\r0.own=ZB)/\r.own=ZB/\tab≠old
def mK:∀(rs:List RowOb) (nid:Nat) (F:Fz) (b:Nat),(F.rws (E3 nid rs)).row b=if nid<=b/\b<nid+rs.length then ZA rs[b-nid]? else F.row b
 |[],nid,F,b=>by simp[E3,Fz.rws];omega
 |r::rs,nid,F,b=>by
   show((F.rw1 (nid,ZA r)).rws (E3 (nid+1) rs)).row b=_;rw[mK rs (nid+1)];by_cases h1:nid+1<=b/\b<nid+1+rs.length
   .rw[ae h1,ae Xz];rw[show b-nid=(b-(nid+1))+1 by omega];rfl
   .rw[aa h1];by_cases h2:b=nid
    .subst h2;rw[ae (by simp)];simp[Fz.rw1]
    .rw[aa Xz];simp[Fz.rw1,h2]
def aX:∀(l:List (Nat×Option RowOb)) (F:Fz),(F.rws l).box=F.box/\(F.rws l).tmp=F.tmp/\(F.rws l).lp=F.lp
 |[],_=>⟨rfl,rfl,rfl⟩
 |p::l,F=>aX l (F.rw1 p)
def Rel.set(h:Rel ρ n X W0 fb F j a w){id:Nat}(hr:FK F 0 (.set id r))(hs:j.s id=ZA s)(hg:w.grownBy w' s.v.ownBlock)(Ai:RowOk ρ W0.heap.size w' s r)(ht:r.kd=.tab->TbAt ρ j w' s r):Rel ρ n X W0 fb (F.rws (RE.rs 0 (.set id r))) j a w':=by
 obtain⟨⟨q,hq,AJ⟩,Zb⟩:=hr;obtain⟨hx,hb,Fm,hz⟩:=h.turn hq AJ hs hg;have JF:∀b r',(F.rw1 (id,ZA r)).row b=ZA (ZA r')->∃q',F.row b=ZA (ZA q')/\r'.own=q'.own:=by
  intro b r' hF;simp only[Fz.rw1]at hF;split at hF
  next Gv=>subst Gv;simp only[aU]at hF;subst hF;exact⟨q,hq,by rw[AJ];exact Zb⟩
  .exact⟨r',hF,rfl⟩
 show Rel ρ n X W0 fb (F.rw1 (id,ZA r)) j a w';refine⟨h.defers,h.size,h.tmp,h.sav,fun b cs ty hF=> ?_,h.nob,h.inj,fun b r' hF=> ?_,fun b hF=> ?_,fun b b' k r' s' h1 h2 h3=> ?_,fun b b' r1 r2 s1 s2 k h1 h2 h3 h4 h5=> ?_,fun b cs hF=> ?_,hx,h.gs.step rfl rfl (fun b hF=> ?_) hz (fun _ _ h=>.inl h) (fun b r' s' h1 h2=> ?_) (fun b r' s' h1 h2=> ?_) (fun b r' s' h1 hk h2=> ?_)⟩
 .obtain⟨k,vs,h1,h2,h3,h4⟩:=h.box b cs ty hF;exact⟨k,vs,h1,h2,h3,by rw[hb b k h1];exact h4⟩
 .by_cases Gv:b=id
  .subst Gv;simp only[Fz.rw1,aW,aU]at hF;subst hF;exact⟨s,hs,Ai⟩
  .simp only[Fz.rw1,Gv,dz]at hF;obtain⟨s',h1,h2⟩:=h.row b r' hF;exact⟨s',h1,h2.kept hg.size (fun k hk=>Fm b r' s' k Gv hF h1 hk)⟩
 .simp only[Fz.rw1]at hF;split at hF
  .exact XQ
  .exact h.nor b hF
 .obtain⟨q',Gg,ho⟩:=JF b' r' h2;rw[ho];exact h.sep b b' k q' s' h1 Gg h3
 .obtain⟨q1,Kc,ho⟩:=JF b r1 h1;obtain⟨q2,E8,GE⟩:=JF b' r2 h3;rw[ho,GE];exact h.rsep b b' q1 q2 s1 s2 k Kc (by rw[<-ho];exact h2) E8 h4 h5
 .obtain⟨k,vs,h1,h2,h3,h4⟩:=h.fb b cs hF;refine⟨k,vs,h1,h2,h3,fun o v ho Bi=> ?_⟩;rw[World.cell?_of_block (a:=⟨k,o,ZD⟩) ((hx.block' k h2).trans (h.ext.block' k h2).symm)];exact h4 o v ho Bi
 .simp only[Fz.rw1]at hF;split at hF
  .exact XQ
  .exact hF
 .obtain⟨q',h3,h4⟩:=JF b r' h1;exact .inl ⟨b,q',s',h3,h2,fun e=>by rw[<-h4];exact e,fun k hk=>.inl (by rw[<-h4];exact hk)⟩
 .obtain⟨q',h3,h4⟩:=JF b r' h1;exact h.gs.ev b q' s' h3 h2
 .by_cases Gv:b=id
  .subst Gv;simp only[Fz.rw1,aW,aU]at h1;subst h1;rw[hs]at h2;cases h2;exact ht hk
  .simp only[Fz.rw1,Gv,dz]at h1;exact(h.gs.tb b r' s' h1 hk h2).mono rfl rfl (fun _ _ _ hz=>hz) (fun g ha=>Fm b r' s' g Gv h1 h2 (h.tabBlk h1 hk h2 ha).1)
def uJ{svs:List SV}:(j.putL nid svs).s b=if nid<=b/\b<nid+svs.length then svs[b-nid]? else j.s b:=by
 simp only[J.putL];by_cases h1:nid<=b
 .by_cases h2:b<nid+svs.length
  .rw[ae h1,ae ⟨h1,h2⟩,Az Fn]
  .rw[ae h1,aa (fun e=>h2 e.2),bN Fn]
 .rw[aa h1,aa (fun e=>h1 e.1)]
def Rel.made(h:Rel ρ n X W0 fb F j a w){rs:List RowOb}{svs:List SV}(hr:FK F nid (.mk rs))(hx:Ext w w')(hl:svs.length=rs.length)
  (Ai:∀(i:Nat) u r,svs[i]? =ZA u->rs[i]? =ZA r->RowOk ρ w.heap.size w' u r/\r.own=ZB/\(r.kd=.tab->∀jj,TbAt ρ jj w' u r)) (M8:∀(i i':Nat) u u' k,svs[i]? =ZA u->svs[i']? =ZA u'->u.v.ownBlock=ZA k->u'.v.ownBlock=ZA k->i=i') (Ie:∀u∈svs,NewZ w w' svs u):
  Rel ρ n X W0 fb (F.rws (E3 nid rs)) ((j.putL nid svs).addzs (svs.flatMap (·.z))) a w':=by
 have h':=h.more hx;have hn:∀b,nid<=b->b<nid+rs.length->j.s b=ZD:=fun b h1 h2=>h.nor b (by have:=hr (b-nid) Fn;rwa [show nid+(b-nid)=b by omega]at this);have Lb:Sub j (j.putL nid svs):=⟨fun _ _ hb=>hb,fun b v hb=>by
  rw[uJ];split
  next CD=>rw[hn b CD.1 Fn]at hb;cases hb
  .exact hb,fun _ _ hb=>hb,fun _ _ hb=>hb⟩
 obtain⟨e1,e2,e3⟩:=aX (E3 nid rs) F;generalize IG:svs.flatMap (·.z)=zs;obtain⟨f1,f2,f3,f4⟩:=ajL (j.putL nid svs) zs;have hs:Sub j ((j.putL nid svs).addzs zs):=Lb.trans ⟨fun b k e=>by rw[f2];exact e,fun b k e=>by rw[f1];exact e,fun b k e=>by rw[f3];exact e,fun b k e=>by rw[f4];exact e⟩;have Il:∀p∈zs,w'.heap[p.1]? =ZA p.2/\B6 p.2=ZB/\w.heap.size<=p.1/\∀u∈svs,u.v.ownBlock≠ZA p.1:=fun p hp=>by rw[<-IG,List.mem_flatMap]at hp;obtain⟨u,hu,hp⟩:=hp;exact Ie u hu p hp
 have one:∀p∈zs,∀q∈zs,p.1=q.1->p.2=q.2:=fun p hp q hq e=>by have h1:=(Il p hp).1;rw[e,(Il q hq).1]at h1;exact(YL h1).symm
 have DS:∀k o,j.g.z k=ZA o->∀p∈zs,p.1≠k:=fun k o hk p hp e=>by have:=h.gs.lt hk;have:=(Il p hp).2.2.1;omega
 have rows:∀b r,(F.rws (E3 nid rs)).row b=ZA (ZA r)->(F.row b=ZA (ZA r)/\(j.putL nid svs).s b=j.s b/\¬(nid<=b/\b<nid+rs.length))\/∃i u,b=nid+i/\svs[i]? =ZA u/\rs[i]? =ZA r/\(j.putL nid svs).s b=ZA u:=by
  intro b r hF;rw[mK]at hF;rw[uJ,hl];split at hF
  next CD=>right;have hi:b-nid<svs.length:=Fn;refine⟨b-nid,svs[b-nid],by omega,Az hi,by simpa using hF,?_⟩;rw[ae CD,Az hi]
  next CD=>exact .inl ⟨hF,by rw[aa CD],CD⟩
 have blk:∀(i:Nat) (u:SV) (r:RowOb),svs[i]? =ZA u->rs[i]? =ZA r->∀k,u.v.ownBlock=ZA k->w.heap.size<=k:=fun i u r h1 h2 k hk=>((Ai i u r h1 h2).1.owned (Ai i u r h1 h2).2.1 k hk).2;refine⟨h'.defers,h'.size,fun t ht=> ?_,fun i v hi=>by rw[e2];exact(h'.sav i v hi).imp _root_.id (V.den_sub hs),fun b cs ty hF=> ?_,fun b hF=> ?_,fun b b' k h1 h2=> ?_,fun b r hF=> ?_,fun b hF=> ?_,fun b b' k r s h1 h2 h3 h4=> ?_,fun b b' r1 r2 s1 s2 k h1 h2 h3 h4 h5 h6 h7=> ?_,fun b cs hF=> ?_,h'.ext,⟨fun k o hk=> ?_,fun k o b hk e=> ?_,fun k o b r s hk hF Cj hc e=> ?_,fun D hD=> ?_,h.gs.nd,fun i y hy=> ?_,fun i hF hy=> ?_,fun b r s h1 h2=> ?_,fun b r s h1 hk h2=> ?_⟩⟩
 .rw[e2];obtain⟨v,h1,h2⟩:=h'.tmp t ht;exact⟨v,h1,h2.imp _root_.id (V.den_sub hs)⟩
 .rw[e1]at hF;obtain⟨k,vs,h1,h2,h3,h4⟩:=h'.box b cs ty hF;exact⟨k,vs,by rw[f2];exact h1,h2,bF hs h3,h4⟩
 .rw[e1]at hF;rw[f2];exact h'.nob b hF
 .rw[f2]at h1 h2;exact h'.inj b b' k h1 h2
 .rw[f1];rcases rows b r hF with⟨h1,h2,_⟩|⟨i,u,rfl,h1,h2,h3⟩
  .rw[h2];exact h'.row b r h1
  .exact⟨u,h3,(Ai i u r h1 h2).1.base h.ext.size⟩
 .rw[mK]at hF;rw[f1,uJ,hl];split at hF
  next CD=>exfalso;rw[Az Fn]at hF;cases hF
  next CD=>rw[aa CD];exact h.nor b hF
 .rw[f2]at h1;rw[f1]at h3;have Gq:j.b b=ZA k:=h1;rcases rows b' r h2 with⟨g1,g2,_⟩|⟨i,u,rfl,g1,g2,g3⟩
  .rw[g2]at h3;exact h.sep b b' k r s Gq g1 h3 h4
  .rw[g3]at h3;cases h3;obtain⟨_,_,_,_,_,_,_,Ap⟩:=h.lt Gq;have:=blk i _ r g1 g2 k (ay h4);omega
 .rw[f1]at h4 h5;rcases rows b r1 h1 with⟨g1,g2,_⟩|⟨i,u,rfl,g1,g2,g3⟩
  .rw[g2]at h4;rcases rows b' r2 h3 with⟨q1,q2,_⟩|⟨i',u',rfl,q1,q2,q3⟩
   .rw[q2]at h5;exact h.rsep b b' r1 r2 s1 s2 k g1 h2 q1 h4 h5 h6 h7
   .rw[q3]at h5;cases h5;obtain⟨s0,p1,p2⟩:=h.row b r1 g1;rw[h4]at p1;cases p1;have:=p2.lt k h6;have:=blk i' _ r2 q1 q2 k (ay h7);omega
  .rw[g3]at h4;cases h4;rcases rows b' r2 h3 with⟨q1,q2,_⟩|⟨i',u',rfl,q1,q2,q3⟩
   .rw[q2]at h5;obtain⟨s0,p1,p2⟩:=h.row b' r2 q1;rw[h5]at p1;cases p1;have:=p2.lt k h7;have:=blk i _ r1 g1 g2 k (ay h6);omega
   .rw[q3]at h5;cases h5;rw[M8 i i' _ _ k g1 q1 (ay h6) (ay h7)]
 .obtain⟨k,vs,h1,h2,h3,h4⟩:=h'.fb b cs hF;exact⟨k,vs,by rw[f3];exact h1,h2,bF hs h3,h4⟩
 .rcases rI hk with h1|⟨_,h1⟩
  .obtain⟨z1,z2,z3,_⟩:=Il _ h1;exact⟨z1,fun e=>by rw[z2]at e;cases e⟩
  .exact h'.gs.at' k o h1
 .rw[f2]at e;rcases rI hk with h1|⟨_,h1⟩
  .obtain⟨_,_,z3,_⟩:=Il _ h1;obtain⟨_,_,_,_,_,_,_,Ap⟩:=h.lt (show j.b b=ZA k from e);simp only at z3;omega
  .exact h.gs.box k o b h1 e
 .rw[f1]at Cj;rcases rI hk with h1|⟨_,h1⟩
  .obtain⟨_,_,z3,z4⟩:=Il _ h1;rcases rows b r hF with⟨g1,g2,_⟩|⟨i,u,rfl,g1,g2,g3⟩
   .rw[g2]at Cj;obtain⟨s0,p1,p2⟩:=h.row b r g1;rw[Cj]at p1;cases p1;have:=p2.lt k e;simp only at z3;omega
   .rw[g3]at Cj;cases Cj;exact z4 _ (ew g1) (ay e)
  .have Ap:=h.gs.lt h1;rcases rows b r hF with⟨g1,g2,_⟩|⟨i,u,rfl,g1,g2,g3⟩
   .rw[g2]at Cj;exact h.gs.row k o b r s h1 g1 Cj hc e
   .rw[g3]at Cj;cases Cj;have:=blk i _ r g1 g2 k (ay e);omega
 .have h1:=h.gs.md D hD;rw[jc (DS D _ h1)];exact h1
 .rw[e3]at hy;obtain⟨rf,o,h1,h2,h3,h4⟩:=h.gs.lp i y hy;exact⟨rf,o,h1,by rw[f4];exact h2,by rw[jc (DS _ _ h3)];exact h3,h4⟩
 .rw[f4];rw[e3]at hy;refine h.gs.nol i ?_ hy;rw[mK]at hF;split at hF
  next CD=>rw[Az Fn]at hF;cases hF
  .exact hF
 .intro p hp;rw[f1]at h2;rcases rows b r h1 with⟨g1,g2,_⟩|⟨i,u,rfl,g1,g2,g3⟩
  .rw[g2]at h2;obtain⟨z1,z2⟩:=h.gs.ev b r s g1 h2 p hp;exact⟨by rw[jc (DS _ _ z1)];exact z1,z2⟩
  .rw[g3]at h2;cases h2;have hm:p∈zs:=by
    rw[<-IG,List.mem_flatMap];exact⟨_,ew g1,hp⟩
   exact⟨ajK one hm,(Il p hm).2.1⟩
 .rw[f1]at h2;rcases rows b r h1 with⟨g1,g2,_⟩|⟨i,u,rfl,g1,g2,g3⟩
  .rw[g2]at h2;exact(h.gs.tb b r s g1 hk h2).mono rfl rfl (fun k o _ hz=>by rw[jc (DS k o hz)];exact hz) (fun g ha=>hx.block g (h.tabBlk g1 hk h2 ha).2)
  .rw[g3]at h2;cases h2;exact(Ai i s r g1 g2).2.2 hk _
def Sub.putS(h:j.s nid=ZD):Sub j (j.putS nid s):=⟨fun _ _ hb=>hb,fun b v hb=>by
 simp only[J.putS];split
 next e=>subst e;rw[h]at hb;cases hb
 .exact hb,fun _ _ hb=>hb,fun _ _ hb=>hb⟩
def Rel.app(h:Rel ρ n X W0 fb F j a w)(hr:FK F nid (.app old r))(hs:j.s old=ZA s)(hg:w.grownBy w' s.v.ownBlock)(Ai:RowOk ρ W0.heap.size w' s' r)(Db:s'.v.ownBlock=s.v.ownBlock\/s'.v.ownBlock=ZA w.heap.size)(Ie:Zin j s')(Nl:r.kd≠.tab):
  Rel ρ n X W0 fb (F.rws (RE.rs nid (.app old r))) (j.putS nid s') a w':=by
 obtain⟨⟨q,hq,AJ⟩,Zb,H5,Bg⟩:=hr;obtain⟨hx,hb,Fm,hz⟩:=h.turn hq AJ hs hg;have BE:Sub j (j.putS nid s'):=Sub.putS (h.nor nid H5);have rows:∀b r',((F.rw1 (old,ZD)).rw1 (nid,ZA r)).row b=ZA (ZA r')->(b=nid/\r'=r)\/(b≠nid/\b≠old/\F.row b=ZA (ZA r')/\(j.putS nid s').s b=j.s b):=by
  intro b r' hF;simp only[Fz.rw1]at hF;split at hF
  .exact XD
  .rename_i e;split at hF
   .exact XQ
   next e'=>exact .inr ⟨e,e',hF,by simp[J.putS,e]⟩
 have Cg:(j.putS nid s').s nid=ZA s':=by simp[J.putS]
 have Bp:∀b,b≠nid->(j.putS nid s').s b=j.s b:=fun b e=>by simp[J.putS,e]
 show Rel ρ n X W0 fb ((F.rw1 (old,ZD)).rw1 (nid,ZA r)) (j.putS nid s') a w';refine⟨h.defers,h.size,fun t ht=> ?_,fun i v hi=>(h.sav i v hi).imp _root_.id (V.den_sub BE),fun b cs ty hF=> ?_,h.nob,h.inj,fun b r' hF=> ?_,fun b hF=> ?_,fun b b' k r' s1 h1 h2 h3 h4=> ?_,fun b b' r1 r2 s1 s2 k h1 h2 h3 h4 h5 h6 h7=> ?_,fun b cs hF=> ?_,hx,h.gs.step rfl rfl (fun b hF=> ?_) hz (fun _ _ h=>.inl h) (fun b r' s1 h1 h2=> ?_) (fun b r' s1 h1 h2=> ?_) (fun b r' s1 h1 hk h2=> ?_)⟩
 .obtain⟨v,h1,h2⟩:=h.tmp t ht;exact⟨v,h1,h2.imp _root_.id (V.den_sub BE)⟩
 .obtain⟨k,vs,h1,h2,h3,h4⟩:=h.box b cs ty hF;exact⟨k,vs,h1,h2,bF BE h3,by rw[hb b k h1];exact h4⟩
 .rcases rows b r' hF with⟨rfl,rfl⟩|⟨e1,e2,Bv,Bi⟩
  .exact YH
  .rw[Bi];obtain⟨s1,h1,h2⟩:=h.row b r' Bv;exact⟨s1,h1,h2.kept hg.size (fun k hk=>Fm b r' s1 k e2 Bv h1 hk)⟩
 .simp only[Fz.rw1]at hF;split at hF
  .exact XQ
  .rename_i e;split at hF
   .exact XQ
   .exact YA
 .have Gq:j.b b=ZA k:=h1;obtain⟨_,_,_,_,_,_,_,Ap⟩:=h.lt Gq;rcases rows b' r' h2 with⟨rfl,rfl⟩|⟨e1,e2,Bv,Bi⟩
  .rw[Cg]at h3;cases h3;rcases Db with e|e
   .exact h.sep b old k q s Gq hq hs (nj AJ (e▸ay h4))
   .have h4:=ay h4;rw[e]at h4;cases h4;omega
  .rw[Bi]at h3;exact h.sep b b' k r' s1 Gq Bv h3 h4
 .rcases rows b r1 h1 with⟨rfl,rfl⟩|⟨e1,e2,Hd,Cj⟩
  .rcases rows b' r2 h3 with⟨rfl,_⟩|⟨e3,e4,Iw,HF⟩
   .rfl
   .exfalso;rw[Cg]at h4;cases h4;rw[HF]at h5;rcases Db with e|e
    .exact e4 (h.rsep old b' q r2 s s2 k hq AJ Iw hs h5 (nj AJ (e▸ay h6)) h7).symm
    .obtain⟨s0,p1,p2⟩:=h.row b' r2 Iw;rw[h5]at p1;cases p1;have:=p2.lt k h7;have h6:=ay h6;rw[e]at h6;cases h6;omega
  .rw[Cj]at h4;rcases rows b' r2 h3 with⟨rfl,_⟩|⟨e3,e4,Iw,HF⟩
   .exfalso;rw[Cg]at h5;cases h5;rcases Db with e|e
    .exact e2 (h.rsep b old r1 q s1 s k Hd h2 hq h4 hs h6 (nj AJ (e▸ay h7)))
    .obtain⟨s0,p1,p2⟩:=h.row b r1 Hd;rw[h4]at p1;cases p1;have:=p2.lt k h6;have h7:=ay h7;rw[e]at h7;cases h7;omega
   .rw[HF]at h5;exact h.rsep b b' r1 r2 s1 s2 k Hd h2 Iw h4 h5 h6 h7
 .obtain⟨k,vs,h1,h2,h3,h4⟩:=h.fb b cs hF;refine⟨k,vs,h1,h2,bF BE h3,fun o v ho Bi=> ?_⟩;rw[World.cell?_of_block (a:=⟨k,o,ZD⟩) ((hx.block' k h2).trans (h.ext.block' k h2).symm)];exact h4 o v ho Bi
 .simp only[Fz.rw1]at hF;split at hF
  .exact XQ
  .split at hF
   .exact XQ
   .exact hF
 .rcases rows b r' h1 with⟨rfl,rfl⟩|⟨e1,e2,Bv,Bi⟩
  .rw[Cg]at h2;cases h2;refine .inl ⟨old,q,s,hq,hs,fun _=>AJ,fun k hk=> ?_⟩;rcases Db with e|e
   .exact .inl (nj AJ (e▸ay hk))
   .have:=ay hk;rw[e]at this;cases this;exact .inr (YJ _)
  .rw[Bi]at h2;exact .inl ⟨b,r',s1,Bv,h2,fun h=>h,fun _ h=>.inl h⟩
 .rcases rows b r' h1 with⟨rfl,rfl⟩|⟨e1,e2,Bv,Bi⟩
  .rw[Cg]at h2;cases h2;exact Ie
  .rw[Bi]at h2;exact h.gs.ev b r' s1 Bv h2
 .rcases rows b r' h1 with⟨rfl,rfl⟩|⟨e1,e2,Bv,Bi⟩
  .exact ak hk Nl
  .rw[Bi]at h2;exact(h.gs.tb b r' s1 Bv hk h2).mono rfl rfl (fun _ _ _ hz=>hz) (fun g ha=>Fm b r' s1 g e2 Bv h2 (h.tabBlk Bv hk h2 ha).1)
def Rel.view(h:Rel ρ n X W0 fb F j a w)(hr:FK F nid (.view old q r))(hs:j.s old=ZA s)(hq:RowOk ρ W0.heap.size w s q)(Ai:RowOk ρ W0.heap.size w s' r)(Db:∀k,s'.blk ZC=ZA k->s.blk ZC=ZA k)(Ie:Zin j s')(Gg:q.kd≠.tab)(Nl:r.kd≠.tab):
  Rel ρ n X W0 fb (F.rws (RE.rs nid (.view old q r))) (j.putS nid s') a w:=by
 obtain⟨⟨q0,EB⟩,FE,Zb,H5,Bg⟩:=hr;have BE:Sub j (j.putS nid s'):=Sub.putS (h.nor nid H5);have rows:∀b r',((F.rw1 (old,ZA q)).rw1 (nid,ZA r)).row b=ZA (ZA r')->(b=nid/\r'=r)\/(b≠nid/\b=old/\r'=q)\/(b≠nid/\b≠old/\F.row b=ZA (ZA r')):=by
  intro b r' hF;simp only[Fz.rw1]at hF;split at hF
  .exact XD
  .rename_i e;split at hF
   next e'=>exact .inr (.inl ⟨e,e',by simpa using hF.symm⟩)
   next e'=>exact .inr (.inr ⟨e,e',hF⟩)
 have Cg:(j.putS nid s').s nid=ZA s':=by simp[J.putS]
 have Bp:∀b,b≠nid->(j.putS nid s').s b=j.s b:=fun b e=>by simp[J.putS,e]
 show Rel ρ n X W0 fb ((F.rw1 (old,ZA q)).rw1 (nid,ZA r)) (j.putS nid s') a w;refine⟨h.defers,h.size,fun t ht=> ?_,fun i v hi=>(h.sav i v hi).imp _root_.id (V.den_sub BE),fun b cs ty hF=> ?_,h.nob,h.inj,fun b r' hF=> ?_,fun b hF=> ?_,fun b b' k r' s1 h1 h2 h3 h4=> ?_,fun b b' r1 r2 s1 s2 k h1 h2 h3 h4 h5 h6 h7=> ?_,fun b cs hF=> ?_,h.ext,h.gs.step rfl rfl (fun b hF=> ?_) (fun _ _ _=>rfl) (fun _ _ h=>.inl h) (fun b r' s1 h1 h2=> ?_) (fun b r' s1 h1 h2=> ?_) (fun b r' s1 h1 hk h2=> ?_)⟩
 .obtain⟨v,h1,h2⟩:=h.tmp t ht;exact⟨v,h1,h2.imp _root_.id (V.den_sub BE)⟩
 .obtain⟨k,vs,h1,h2,h3,h4⟩:=h.box b cs ty hF;exact⟨k,vs,h1,h2,bF BE h3,h4⟩
 .rcases rows b r' hF with⟨rfl,rfl⟩|⟨e1,rfl,rfl⟩|⟨e1,e2,Bv⟩
  .exact YH
  .exact⟨s,by rw[Bp _ e1];exact hs,hq⟩
  .rw[Bp b e1];exact h.row b r' Bv
 .simp only[Fz.rw1]at hF;split at hF
  .exact XQ
  .rename_i e;split at hF
   .exact XQ
   .exact YA
 .have Gq:j.b b=ZA k:=h1;rcases rows b' r' h2 with⟨rfl,rfl⟩|⟨e1,rfl,rfl⟩|⟨e1,e2,Bv⟩
  .rw[Cg]at h3;cases h3;exact h.sep b old k q0 s Gq EB hs (bI (Db k (by rw[Zb]at h4;exact h4)))
  .rw[Bp _ e1,hs]at h3;cases h3;exact h.sep b _ k q0 s Gq EB hs (bI (by rw[FE]at h4;exact h4))
  .rw[Bp b' e1]at h3;exact h.sep b b' k r' s1 Gq Bv h3 h4
 .rcases rows b r1 h1 with⟨rfl,rfl⟩|⟨e1,rfl,rfl⟩|⟨e1,e2,Hd⟩
  .rw[Zb]at h2;cases h2
  .rw[FE]at h2;cases h2
  .rw[Bp b e1]at h4;rcases rows b' r2 h3 with⟨rfl,rfl⟩|⟨e3,rfl,rfl⟩|⟨e3,e4,Iw⟩
   .rw[Cg]at h5;cases h5;exact ak (h.rsep b old r1 q0 s1 s k Hd h2 EB h4 hs h6 (bI (Db k (by rw[Zb]at h7;exact h7)))) e2
   .rw[Bp _ e3,hs]at h5;cases h5;exact h.rsep b _ r1 q0 s1 s k Hd h2 EB h4 hs h6 (bI (by rw[FE]at h7;exact h7))
   .rw[Bp b' e3]at h5;exact h.rsep b b' r1 r2 s1 s2 k Hd h2 Iw h4 h5 h6 h7
 .obtain⟨k,vs,h1,h2,h3,h4⟩:=h.fb b cs hF;exact⟨k,vs,h1,h2,bF BE h3,h4⟩
 .simp only[Fz.rw1]at hF;split at hF
  .exact XQ
  .split at hF
   .exact XQ
   .exact hF
 .rcases rows b r' h1 with⟨rfl,rfl⟩|⟨e1,rfl,rfl⟩|⟨e1,e2,Bv⟩
  .rw[Cg]at h2;cases h2;exact .inl ⟨old,q0,s,EB,hs,fun e=>(by rw[Zb]at e;cases e),fun k hk=>.inl (bI (Db k (by rw[Zb]at hk;exact hk)))⟩
  .rw[Bp _ e1,hs]at h2;cases h2;exact .inl ⟨_,q0,s,EB,hs,fun e=>(by rw[FE]at e;cases e),fun k hk=>.inl (bI (by rw[FE]at hk;exact hk))⟩
  .rw[Bp b e1]at h2;exact .inl ⟨b,r',s1,Bv,h2,fun h=>h,fun _ h=>.inl h⟩
 .rcases rows b r' h1 with⟨rfl,rfl⟩|⟨e1,rfl,rfl⟩|⟨e1,e2,Bv⟩
  .rw[Cg]at h2;cases h2;exact Ie
  .rw[Bp _ e1,hs]at h2;cases h2;exact h.gs.ev _ q0 _ EB hs
  .rw[Bp b e1]at h2;exact h.gs.ev b r' s1 Bv h2
 .rcases rows b r' h1 with⟨rfl,rfl⟩|⟨e1,rfl,rfl⟩|⟨e1,e2,Bv⟩
  .exact ak hk Nl
  .exact ak hk Gg
  .rw[Bp b e1]at h2;exact(h.gs.tb b r' s1 Bv hk h2).mono rfl rfl (fun _ _ _ hz=>hz) (fun _ _=>rfl)
def aa2(j:J)(l:Nat)(x:Option Obj):Sub j (j.setz l x):=⟨fun _ _ h=>h,fun _ _ h=>h,fun _ _ h=>h,fun _ _ h=>h⟩
def aa4(j:J)(z:List (Nat×Obj)):Sub j (j.addz z):=by
 cases z with
 |nil=>exact .refl j
 |cons p z=>exact aa2 _ _ _
def UH(j:J)(z:List (Nat×Obj)):(j.addz z).s=j.s/\(j.addz z).b=j.b/\(j.addz z).f=j.f/\(j.addz z).g.y=j.g.y:=by cases z<;>exact⟨rfl,rfl,rfl,rfl⟩
def tD(hl:z.length<=1){o:Obj}(h:(j.addz z).g.z k=ZA o):(k,o)∈z\/((∀p∈z,p.1≠k)/\j.g.z k=ZA o):=by
 match z,hl with
 |[],_=>exact .inr ⟨fun p hp=>Yi,h⟩
 |[p],_=>
   simp only[J.addz,J.setz,Gh.setz]at h;by_cases e:k=p.1
   .rw[ae e]at h;cases h;exact .inl (by rw[e];exact bG)
   .rw[aa e]at h;exact .inr ⟨fun q hq=>by rw[cV.1 hq];exact fun h=>e h.symm,h⟩
def amz(hl:z.length<=1){p:Nat×Obj}(hp:p∈z):(j.addz z).g.z p.1=ZA p.2:=by
 match z,hl with
 |[q],_=>rw[cV.1 hp];simp[J.addz,J.setz,Gh.setz]
def cZ(hl:z.length<=1)(hk:∀p∈z,p.1≠k):(j.addz z).g.z k=j.g.z k:=by
 match z,hl with
 |[],_=>rfl
 |[q],_=>have:=hk q bG;simp only[J.addz,J.setz,Gh.setz];rw[aa (fun e=>this e.symm)]
def Rel.frz(h:Rel ρ n X W0 fb F j a w)(hr:FK F nid (.frz old q r))(hx:Ext w w')(hs:j.s old=ZA s)(hq:RowOk ρ W0.heap.size w s q)(Ai:RowOk ρ W0.heap.size w' s' r)(Js:∀k,s'.v.ownBlock=ZA k->w.heap.size<=k)(hl:s'.z.length<=1)(hz:∀p∈s'.z,w.heap[p.1]? =ZA p.2/\B6 p.2=ZB/\s.v.ownBlock=ZA p.1)(Gg:q.kd≠.tab)(Nl:r.kd≠.tab):
  Rel ρ n X W0 fb (F.rws (RE.rs nid (.frz old q r))) ((j.putS nid s').addz s'.z) a w':=by
 obtain⟨⟨q0,EB,EC⟩,FE,Zb,H5,Bg⟩:=hr;have h':=h.more hx;obtain⟨f1,f2,f3,f4⟩:=UH (j.putS nid s') s'.z;have BE:Sub j ((j.putS nid s').addz s'.z):=(Sub.putS (h.nor nid H5)).trans (aa4 _ _);have rows:∀b r',((F.rw1 (old,ZA q)).rw1 (nid,ZA r)).row b=ZA (ZA r')->(b=nid/\r'=r)\/(b≠nid/\b=old/\r'=q)\/(b≠nid/\b≠old/\F.row b=ZA (ZA r')):=by
  intro b r' hF;simp only[Fz.rw1]at hF;split at hF
  .exact XD
  .rename_i e;split at hF
   next e'=>exact .inr (.inl ⟨e,e',by simpa using hF.symm⟩)
   next e'=>exact .inr (.inr ⟨e,e',hF⟩)
 have Cg:((j.putS nid s').addz s'.z).s nid=ZA s':=by rw[f1];simp[J.putS]
 have Bp:∀b,b≠nid->((j.putS nid s').addz s'.z).s b=j.s b:=fun b e=>by rw[f1];simp[J.putS,e]
 obtain⟨s0,g1,g2⟩:=h.row old q0 EB;rw[hs]at g1;cases g1;have Hb:∀k,s'.blk r.own=ZA k->w.heap.size<=k:=fun k hk=>Js k (ay hk);have Ir:∀p∈s'.z,s.blk q0.own=ZA p.1:=fun p hp=>nj EC (hz p hp).2.2;have DS:∀k o,j.g.z k=ZA o->∀p∈s'.z,p.1≠k:=fun k o hk p hp e=>h.gs.row k o old q0 s hk EB hs (.inl EC) (by rw[<-e];exact Ir p hp);have IL:∀b r s k,F.row b=ZA (ZA r)->j.s b=ZA s->s.blk r.own=ZA k->k<w.heap.size:=fun b r s k hF hs hk=>by obtain⟨s',h1,h2⟩:=h.row b r hF;rw[hs]at h1;cases h1;exact h2.lt k hk
 show Rel ρ n X W0 fb ((F.rw1 (old,ZA q)).rw1 (nid,ZA r)) ((j.putS nid s').addz s'.z) a w';refine⟨h.defers,h.size,fun t ht=> ?_,fun i v hi=>(h.sav i v hi).imp _root_.id (V.den_sub BE),fun b cs ty hF=> ?_,fun b hF=>by rw[f2];exact h.nob b hF,fun b b' k h1 h2=>by rw[f2]at h1 h2;exact h.inj b b' k h1 h2,fun b r' hF=> ?_,fun b hF=> ?_,fun b b' k r' s1 h1 h2 h3 h4=> ?_,fun b b' r1 r2 s1 s2 k h1 h2 h3 h4 h5 h6 h7=> ?_,fun b cs hF=> ?_,h'.ext,⟨fun k o hk=> ?_,fun k o b hk e=> ?_,fun k o b r' s1 hk hF Cj hc e=> ?_,fun D hD=> ?_,h.gs.nd,fun i y hy=> ?_,fun i hF hy=> ?_,fun b r' s1 h1 h2=> ?_,fun b r' s1 h1 hk h2=> ?_⟩⟩
 .obtain⟨v,h1,h2⟩:=h.tmp t ht;exact⟨v,h1,h2.imp _root_.id (V.den_sub BE)⟩
 .obtain⟨k,vs,h1,h2,h3,h4⟩:=h'.box b cs ty hF;exact⟨k,vs,by rw[f2];exact h1,h2,bF BE h3,h4⟩
 .rcases rows b r' hF with⟨rfl,rfl⟩|⟨e1,rfl,rfl⟩|⟨e1,e2,Bv⟩
  .exact YH
  .refine⟨s,by rw[Bp _ e1];exact hs,hq.kept hx.size (fun k hk=>hx.block k (hq.lt k hk))⟩
  .rw[Bp b e1];exact h'.row b r' Bv
 .simp only[Fz.rw1]at hF;split at hF
  .exact XQ
  .rename_i e;split at hF
   .exact XQ
   .exact YA
 .rw[f2]at h1;obtain⟨_,_,_,_,_,_,_,Ap⟩:=h.lt h1;rcases rows b' r' h2 with⟨rfl,rfl⟩|⟨e1,rfl,rfl⟩|⟨e1,e2,Bv⟩
  .rw[Cg]at h3;cases h3;have:=Hb k h4;omega
  .rw[Bp _ e1,hs]at h3;cases h3;exact h.sep b _ k q0 s h1 EB hs (bI (by rw[FE]at h4;exact h4))
  .rw[Bp b' e1]at h3;exact h.sep b b' k r' s1 h1 Bv h3 h4
 .rcases rows b r1 h1 with⟨rfl,rfl⟩|⟨e1,rfl,rfl⟩|⟨e1,e2,Hd⟩
  .rw[Cg]at h4;cases h4;have hk:=Hb k h6;rcases rows b' r2 h3 with⟨rfl,rfl⟩|⟨e3,rfl,rfl⟩|⟨e3,e4,Iw⟩
   .rfl
   .rw[Bp _ e3,hs]at h5;cases h5;have:=hq.lt k h7;omega
   .rw[Bp b' e3]at h5;have:=IL b' r2 s2 k Iw h5 h7;omega
  .rw[FE]at h2;cases h2
  .rw[Bp b e1]at h4;rcases rows b' r2 h3 with⟨rfl,rfl⟩|⟨e3,rfl,rfl⟩|⟨e3,e4,Iw⟩
   .rw[Cg]at h5;cases h5;have:=Hb k h7;have:=IL b r1 s1 k Hd h4 h6;omega
   .rw[Bp _ e3,hs]at h5;cases h5;exact h.rsep b _ r1 q0 s1 s k Hd h2 EB h4 hs h6 (bI (by rw[FE]at h7;exact h7))
   .rw[Bp b' e3]at h5;exact h.rsep b b' r1 r2 s1 s2 k Hd h2 Iw h4 h5 h6 h7
 .obtain⟨k,vs,h1,h2,h3,h4⟩:=h'.fb b cs hF;exact⟨k,vs,by rw[f3];exact h1,h2,bF BE h3,h4⟩
 .rcases tD hl hk with h1|⟨h1,h2⟩
  .obtain⟨z1,z2,z3⟩:=hz _ h1;have Ap:=(fL.1 z1).1;exact⟨(hx.block k Ap).trans z1,fun _=>(g2.owned EC k z3).2⟩
  .exact h'.gs.at' k o h2
 .rw[f2]at e;rcases tD hl hk with h1|⟨h1,h2⟩
  .exact h.sep b old k q0 s e EB hs (Ir _ h1)
  .exact h.gs.box k o b h2 e
 .rcases tD hl hk with h1|⟨h1,h2⟩
  .obtain⟨z1,z2,z3⟩:=hz _ h1;have AJ:r'.own=ZB:=by
    rcases hc with hc|hc
    .exact hc
    .rw[z2]at hc;cases hc
   have Ap:=(fL.1 z1).1;rcases rows b r' hF with⟨rfl,rfl⟩|⟨e1,rfl,rfl⟩|⟨e1,e2,Bv⟩
   .rw[Cg]at Cj;cases Cj;have:=Hb k e;omega
   .rw[FE]at AJ;cases AJ
   .rw[Bp b e1]at Cj;exact e2 (h.rsep old b q0 r' s s1 k EB EC Bv hs Cj (Ir _ h1) e).symm
  .have Ap:=h.gs.lt h2;rcases rows b r' hF with⟨rfl,rfl⟩|⟨e1,rfl,rfl⟩|⟨e1,e2,Bv⟩
   .rw[Cg]at Cj;cases Cj;have:=Hb k e;omega
   .rw[Bp _ e1,hs]at Cj;cases Cj;exact h.gs.row k o _ q0 s h2 EB hs (.inl EC) (bI (by rw[FE]at e;exact e))
   .rw[Bp b e1]at Cj;exact h.gs.row k o b r' s1 h2 Bv Cj hc e
 .have h1:=h.gs.md D hD;rw[cZ hl (DS D _ h1)];exact h1
 .obtain⟨rf,o,h1,h2,h3,h4⟩:=h.gs.lp i y hy;exact⟨rf,o,h1,by rw[f4];exact h2,by rw[cZ hl (DS _ _ h3)];exact h3,h4⟩
 .rw[f4];refine h.gs.nol i ?_ hy;simp only[Fz.rw1]at hF;split at hF
  .exact XQ
  .split at hF
   .exact XQ
   .exact hF
 .intro p hp;rcases rows b r' h1 with⟨rfl,rfl⟩|⟨e1,rfl,rfl⟩|⟨e1,e2,Bv⟩
  .rw[Cg]at h2;cases h2;exact⟨amz hl hp,(hz p hp).2.1⟩
  .rw[Bp _ e1,hs]at h2;cases h2;obtain⟨z1,z2⟩:=h.gs.ev _ q0 s EB hs p hp;exact⟨by rw[cZ hl (DS _ _ z1)];exact z1,z2⟩
  .rw[Bp b e1]at h2;obtain⟨z1,z2⟩:=h.gs.ev b r' s1 Bv h2 p hp;exact⟨by rw[cZ hl (DS _ _ z1)];exact z1,z2⟩
 .rcases rows b r' h1 with⟨rfl,rfl⟩|⟨e1,rfl,rfl⟩|⟨e1,e2,Bv⟩
  .exact ak hk Nl
  .exact ak hk Gg
  .rw[Bp b e1]at h2;exact(h.gs.tb b r' s1 Bv hk h2).mono rfl rfl (fun k o _ hz=>by rw[cZ hl (DS k o hz)];exact hz) (fun g ha=>hx.block g (h.tabBlk Bv hk h2 ha).2)
def Rel.peek(h:Rel ρ n X W0 fb F j a w)(hr:FK F nid (.peek r))(Ai:RowOk ρ W0.heap.size w s' r)(Db:∀k,s'.blk ZC=ZA k->∃o,j.g.z k=ZA o/\B6 o=ZB)(hz:s'.z=[])(Nl:r.kd≠.tab):
  Rel ρ n X W0 fb (F.rws (RE.rs nid (.peek r))) (j.putS nid s') a w:=by
 obtain⟨Zb,H5⟩:=hr;have BE:Sub j (j.putS nid s'):=Sub.putS (h.nor nid H5);have rows:∀b r',(F.rw1 (nid,ZA r)).row b=ZA (ZA r')->(b=nid/\r'=r)\/(b≠nid/\F.row b=ZA (ZA r')):=by
  intro b r' hF;simp only[Fz.rw1]at hF;split at hF
  .exact XD
  next e=>exact .inr ⟨e,hF⟩
 have Cg:(j.putS nid s').s nid=ZA s':=by simp[J.putS]
 have Bp:∀b,b≠nid->(j.putS nid s').s b=j.s b:=fun b e=>by simp[J.putS,e]
 show Rel ρ n X W0 fb (F.rw1 (nid,ZA r)) (j.putS nid s') a w;refine⟨h.defers,h.size,fun t ht=> ?_,fun i v hi=>(h.sav i v hi).imp _root_.id (V.den_sub BE),fun b cs ty hF=> ?_,h.nob,h.inj,fun b r' hF=> ?_,fun b hF=> ?_,fun b b' k r' s1 h1 h2 h3 h4=> ?_,fun b b' r1 r2 s1 s2 k h1 h2 h3 h4 h5 h6 h7=> ?_,fun b cs hF=> ?_,h.ext,⟨h.gs.at',h.gs.box,fun k o b r' s1 hk hF Cj hc e=> ?_,h.gs.md,h.gs.nd,h.gs.lp,fun i hF hy=> ?_,fun b r' s1 h1 h2=> ?_,fun b r' s1 h1 hk h2=> ?_⟩⟩
 .obtain⟨v,h1,h2⟩:=h.tmp t ht;exact⟨v,h1,h2.imp _root_.id (V.den_sub BE)⟩
 .obtain⟨k,vs,h1,h2,h3,h4⟩:=h.box b cs ty hF;exact⟨k,vs,h1,h2,bF BE h3,h4⟩
 .rcases rows b r' hF with⟨rfl,rfl⟩|⟨e1,Bv⟩
  .exact YH
  .rw[Bp b e1];exact h.row b r' Bv
 .simp only[Fz.rw1]at hF;split at hF
  .exact XQ
  next e=>rw[Bp b e];exact h.nor b hF
 .have Gq:j.b b=ZA k:=h1;rcases rows b' r' h2 with⟨rfl,rfl⟩|⟨e1,Bv⟩
  .rw[Cg]at h3;cases h3;rw[Zb]at h4;obtain⟨o,z1,_⟩:=Db k h4;exact h.gs.box k o b z1 Gq
  .rw[Bp b' e1]at h3;exact h.sep b b' k r' s1 Gq Bv h3 h4
 .rcases rows b r1 h1 with⟨rfl,rfl⟩|⟨e1,Hd⟩
  .rw[Zb]at h2;cases h2
  .rw[Bp b e1]at h4;rcases rows b' r2 h3 with⟨rfl,rfl⟩|⟨e3,Iw⟩
   .rw[Cg]at h5;cases h5;rw[Zb]at h7;obtain⟨o,z1,_⟩:=Db k h7;exact(h.gs.row k o b r1 s1 z1 Hd h4 (.inl h2) h6).elim
   .rw[Bp b' e3]at h5;exact h.rsep b b' r1 r2 s1 s2 k Hd h2 Iw h4 h5 h6 h7
 .obtain⟨k,vs,h1,h2,h3,h4⟩:=h.fb b cs hF;exact⟨k,vs,h1,h2,bF BE h3,h4⟩
 .rcases rows b r' hF with⟨rfl,rfl⟩|⟨e1,Bv⟩
  .rw[Cg]at Cj;cases Cj;rw[Zb]at hc e;obtain⟨o',z1,z2⟩:=Db k e;rw[show(j.putS _ _).g.z=j.g.z from rfl,z1]at hk;cases hk;rcases hc with hc|hc
   .cases hc
   .rw[z2]at hc;cases hc
  .rw[Bp b e1]at Cj;exact h.gs.row k o b r' s1 hk Bv Cj hc e
 .refine h.gs.nol i ?_ hy;simp only[Fz.rw1]at hF;split at hF
  .exact XQ
  .exact hF
 .rcases rows b r' h1 with⟨rfl,rfl⟩|⟨e1,Bv⟩
  .rw[Cg]at h2;cases h2;exact Zin.nil hz
  .rw[Bp b e1]at h2;exact h.gs.ev b r' s1 Bv h2
 .rcases rows b r' h1 with⟨rfl,rfl⟩|⟨e1,Bv⟩
  .exact ak hk Nl
  .rw[Bp b e1]at h2;exact(h.gs.tb b r' s1 Bv hk h2).mono rfl rfl (fun _ _ _ hz=>hz) (fun _ _=>rfl)
def Rel.fix(h:Rel ρ n X W0 fb F j a w){o:Obj}{q0:RowOb}(EB:F.row old=ZA (ZA q0))(EC:q0.own=ZB)(FE:q.own=ZC)(hs:j.s old=ZA s)(hq:RowOk ρ W0.heap.size w s q)(hk:s.v.ownBlock=ZA k)(ho:w.heap[k]? =ZA o)(CQ:B6 o=ZB)(Gg:q.kd≠.tab):
  Rel ρ n X W0 fb (F.rw1 (old,ZA q)) (j.addz [(k,o)]) a w:=by
 obtain⟨f1,f2,f3,f4⟩:=UH j [(k,o)];have hl:[(k,o)].length<=1:=YJ _;have BE:Sub j (j.addz [(k,o)]):=aa4 _ _;have rows:∀b r',(F.rw1 (old,ZA q)).row b=ZA (ZA r')->(b=old/\r'=q)\/(b≠old/\F.row b=ZA (ZA r')):=by
  intro b r' hF;simp only[Fz.rw1]at hF;split at hF
  .exact XD
  next e=>exact .inr ⟨e,hF⟩
 obtain⟨s0,g1,g2⟩:=h.row old q0 EB;rw[hs]at g1;cases g1;have Ir:s.blk q0.own=ZA k:=nj EC hk;have DS:∀k' o',j.g.z k'=ZA o'->∀p∈[(k,o)],p.1≠k':=fun k' o' BZ p hp e=>h.gs.row k' o' old q0 s BZ EB hs (.inl EC) (by rw[cV.1 hp]at e;rw[<-e];exact Ir);refine⟨h.defers,h.size,fun t ht=> ?_,fun i v hi=>(h.sav i v hi).imp _root_.id (V.den_sub BE),fun b cs ty hF=> ?_,fun b hF=>by rw[f2];exact h.nob b hF,fun b b' k h1 h2=>by rw[f2]at h1 h2;exact h.inj b b' k h1 h2,fun b r' hF=> ?_,fun b hF=> ?_,fun b b' k' r' s1 h1 h2 h3 h4=> ?_,fun b b' r1 r2 s1 s2 k' h1 h2 h3 h4 h5 h6 h7=> ?_,fun b cs hF=> ?_,h.ext,⟨fun k' o' BZ=> ?_,fun k' o' b BZ e=> ?_,fun k' o' b r' s1 BZ hF Cj hc e=> ?_,fun D hD=> ?_,h.gs.nd,fun i y hy=> ?_,fun i hF hy=> ?_,fun b r' s1 h1 h2=> ?_,fun b r' s1 h1 hkt h2=> ?_⟩⟩
 .obtain⟨v,h1,h2⟩:=h.tmp t ht;exact⟨v,h1,h2.imp _root_.id (V.den_sub BE)⟩
 .obtain⟨k',vs,h1,h2,h3,h4⟩:=h.box b cs ty hF;exact⟨k',vs,by rw[f2];exact h1,h2,bF BE h3,h4⟩
 .rw[f1];rcases rows b r' hF with⟨rfl,rfl⟩|⟨e1,Bv⟩
  .exact⟨s,hs,hq⟩
  .exact h.row b r' Bv
 .rw[f1];simp only[Fz.rw1]at hF;split at hF
  .exact XQ
  .exact h.nor b hF
 .rw[f2]at h1;rw[f1]at h3;rcases rows b' r' h2 with⟨rfl,rfl⟩|⟨e1,Bv⟩
  .rw[hs]at h3;cases h3;exact h.sep b _ k' q0 s h1 EB hs (bI (by rw[FE]at h4;exact h4))
  .exact h.sep b b' k' r' s1 h1 Bv h3 h4
 .rw[f1]at h4 h5;rcases rows b r1 h1 with⟨rfl,rfl⟩|⟨e1,Hd⟩
  .rw[FE]at h2;cases h2
  .rcases rows b' r2 h3 with⟨rfl,rfl⟩|⟨e3,Iw⟩
   .rw[hs]at h5;cases h5;exact h.rsep b _ r1 q0 s1 s k' Hd h2 EB h4 hs h6 (bI (by rw[FE]at h7;exact h7))
   .exact h.rsep b b' r1 r2 s1 s2 k' Hd h2 Iw h4 h5 h6 h7
 .obtain⟨k',vs,h1,h2,h3,h4⟩:=h.fb b cs hF;exact⟨k',vs,by rw[f3];exact h1,h2,bF BE h3,h4⟩
 .rcases tD hl BZ with h1|⟨h1,h2⟩
  .cases cV.1 h1;exact⟨ho,fun _=>(g2.owned EC k hk).2⟩
  .exact h.gs.at' k' o' h2
 .rw[f2]at e;rcases tD hl BZ with h1|⟨h1,h2⟩
  .cases cV.1 h1;exact h.sep b old k q0 s e EB hs Ir
  .exact h.gs.box k' o' b h2 e
 .rw[f1]at Cj;rcases tD hl BZ with h1|⟨h1,h2⟩
  .cases cV.1 h1;have AJ:r'.own=ZB:=by
    rcases hc with hc|hc
    .exact hc
    .rw[CQ]at hc;cases hc
   rcases rows b r' hF with⟨rfl,rfl⟩|⟨e1,Bv⟩
   .rw[FE]at AJ;cases AJ
   .exact e1 (h.rsep old b q0 r' s s1 k EB EC Bv hs Cj Ir e).symm
  .rcases rows b r' hF with⟨rfl,rfl⟩|⟨e1,Bv⟩
   .rw[hs]at Cj;cases Cj;exact h.gs.row k' o' _ q0 s h2 EB hs (.inl EC) (bI (by rw[FE]at e;exact e))
   .exact h.gs.row k' o' b r' s1 h2 Bv Cj hc e
 .have h1:=h.gs.md D hD;rw[cZ hl (DS D _ h1)];exact h1
 .obtain⟨rf,o',h1,h2,h3,h4⟩:=h.gs.lp i y hy;exact⟨rf,o',h1,by rw[f4];exact h2,by rw[cZ hl (DS _ _ h3)];exact h3,h4⟩
 .rw[f4];refine h.gs.nol i ?_ hy;simp only[Fz.rw1]at hF;split at hF
  .exact XQ
  .exact hF
 .intro p hp;rw[f1]at h2;rcases rows b r' h1 with⟨rfl,rfl⟩|⟨e1,Bv⟩
  .rw[hs]at h2;cases h2;obtain⟨z1,z2⟩:=h.gs.ev _ q0 s EB hs p hp;exact⟨by rw[cZ hl (DS _ _ z1)];exact z1,z2⟩
  .obtain⟨z1,z2⟩:=h.gs.ev b r' s1 Bv h2 p hp;exact⟨by rw[cZ hl (DS _ _ z1)];exact z1,z2⟩
 .rw[f1]at h2;rcases rows b r' h1 with⟨rfl,rfl⟩|⟨e1,Bv⟩
  .exact ak hkt Gg
  .exact(h.gs.tb b r' s1 Bv hkt h2).mono rfl rfl (fun k' o' _ hz=>by rw[cZ hl (DS k' o' hz)];exact hz) (fun _ _=>rfl)
def Rel.tset(h:Rel ρ n X W0 fb F j a w){tab:Nat}{o:Obj}{st:SV}(hr:FK F nid (.tset old q tab r))(hs:j.s old=ZA s)(Em:j.s tab=ZA st)(hq:RowOk ρ W0.heap.size w s q)(Ai:RowOk ρ W0.heap.size w' st r)(hk:s.v.ownBlock=ZA k)(ho:w.heap[k]? =ZA o)(CQ:B6 o=ZB)(hg:w.grownBy w' st.v.ownBlock)(ht:TbAt ρ (j.addz [(k,o)]) w' st r)(Gg:q.kd≠.tab):
  Rel ρ n X W0 fb (F.rws (RE.rs nid (.tset old q tab r))) (j.addz [(k,o)]) a w':=by
 obtain⟨⟨q0,EB,EC⟩,FE,⟨r0,FF,hr0o⟩,Zb,Bg⟩:=hr;have h1:=h.fix EB EC FE hs hq hk ho CQ Gg;exact h1.set (r:=r) ⟨⟨r0,by simp only[Fz.rw1,aa Bg];exact FF,hr0o⟩,Zb⟩ (by rw[(UH j [(k,o)]).1];exact Em) hg Ai (fun _=>ht)
structure Sees(n:Nat)(fb:Nat->Option (List C))(vw:Vw)(o:Oper)(eff:Eff)(F:Fz):Prop where
 ev:∀x∈o.op.operands.toList,∀v,vw.ev x=ZA v->OQ F n x=ZA v
 rd:∀p∈eff.rd,∀c,vw.ld p.1 p.2=ZA c->CX F p.1 p.2=ZA c
 wr:∀p∈eff.wr,∃c,CX F p.1 p.2.1=ZA c
 nw:eff.al≠ZD->F.box vw.nid=ZD
 rr:∀id∈eff.rr,∀r,vw.rw id=ZA r->O8 F id=ZA r
 re:FK F vw.nid eff.re
 fb:vw.fb=fb
 one:(eff.al=ZD/\eff.wr=[])\/eff.re=.none
def pt(h:Rel ρ n X W0 fb F j a w){o:Nat}{c:C}(hc:CX F b o=ZA c):∃k v,j.b b=ZA k/\c.den ρ j=ZA v/\w.cell? ⟨k,o,ZD⟩=ZA v/\w.frozen? ⟨k,o,ZD⟩=ZC:=by simp only[CX,cW]at hc;obtain⟨x,hx,hc⟩:=hc;obtain⟨cs,ty⟩:=x;obtain⟨k,vs,h1,h2,h3,h4⟩:=h.box b cs ty hx;obtain⟨v,hv,hd⟩:=dH h3 o c hc;exact⟨k,v,h1,hd,by rw[kH h4];exact hv,ad2 h4⟩
def fC{F:Fz}{id:Nat}(h:O8 F id=ZA r):F.row id=ZA (ZA r):=by
 unfold O8 at h;cases hF:F.row id with
 |none=>rw[hF]at h;cases h
 |some x=>rw[hF]at h;simp only[Option.bind_some]at h;rw[h]
def aqz(h:Rel ρ n X W0 fb F j a w){vw:Vw}(Ai:OpOk P W0.hw ρ W0.heap.size vw o eff)(hs:Sees n fb vw o eff F)(hd:∀d,o.dst=ZA d->d<n){K:Act->World->Prop}{Q:Exit->Act->World->Prop}(hK:∀j' a' w',Rel ρ n X W0 fb (F.app o.dst vw.nid eff) j' a' w'->K a' w'):o.wp P a w K Q:=by
 refine Ai j a w h.ext.size (fun x hx v hv=>h.eval (hs.ev x hx v hv)) (fun p hp c hc=> ?_) (fun p hp=> ?_) (fun id E7 r hr=> ?_) ⟨W0.hh w h.ext,fun b cs hb=> ?_⟩ K Q (fun v j' w' hv Di=> ?_)
 .obtain⟨k,v,h1,h2,h3,_⟩:=pt h (hs.rd p hp c hc);exact⟨k,v,h1,h2,h3⟩
 .obtain⟨c,hc⟩:=hs.wr p hp;obtain⟨k,v,h1,_,h3,h4⟩:=pt h hc;exact⟨k,v,h1,h3,h4⟩
 .obtain⟨s,h1,h2⟩:=h.row id r (fC (hs.rr id E7 r hr));have hz:=h.gs.ev id r s (fC (hs.rr id E7 r hr)) h1;exact⟨s,h1,h2,hz,fun p hp=>(h.gs.at' _ _ (hz p hp).1).1,fun hk=>⟨h.gs.tb id r s (fC (hs.rr id E7 r hr)) hk h1,fun k o hz=>(h.gs.at' k o hz).1⟩⟩
 .rw[hs.fb]at hb;obtain⟨k,vs,h1,h2,h3,h4⟩:=h.fb b cs hb;exact⟨k,vs,h1,nD h2 h.ext.size,h3,h4⟩
 .unfold Mn at Di;refine hK j' _ w' ?_;unfold Fz.app;refine Rel.put ?_ hv hd;split at Di
  .rename_i cs ty Dh;obtain⟨vs,h1,rfl,rfl⟩:=Di;have DG:eff.re=.none:=by
    rcases hs.one with e|e
    .rw[Dh]at e;cases e.1
    .exact e
   rw[Dh,DG];exact h.new h1 (hs.nw (by rw[Dh];simp))
  .rename_i Dh;rw[Dh];have DG:=hs.re;split at Di
   next hr=>obtain⟨rfl,w1,h1,h2⟩:=Di;rw[hr];exact(h.more h1).wrs h2
   .rename_i id r hr;have BS:eff.wr=[]:=by
     rcases hs.one with e|e
     .exact e.2
     .exact XZ
    obtain⟨rfl,s,h1,h2,h3,h4⟩:=Di;rw[hr]at DG;rw[hr,BS];exact h.set DG h1 h2 h3 (fun e=>ak e h4)
   .rename_i rs hr;have BS:eff.wr=[]:=by
     rcases hs.one with e|e
     .exact e.2
     .exact XZ
    obtain⟨hx,svs,h1,h2,h3,h4,rfl⟩:=Di;rw[hr]at DG;rw[hr,BS];exact h.made DG hx h1 h2 h3 h4
   .rename_i old r hr;have BS:eff.wr=[]:=by
     rcases hs.one with e|e
     .exact e.2
     .exact XZ
    obtain⟨s,s',h1,h2,h3,h4,h5,rfl,h6⟩:=Di;rw[hr]at DG;rw[hr,BS];exact h.app DG h1 h2 h3 h4 h5 h6
   .rename_i old q r hr;have BS:eff.wr=[]:=by
     rcases hs.one with e|e
     .exact e.2
     .exact XZ
    obtain⟨rfl,s,s',h1,h2,h3,h4,h5,rfl,h6,h7⟩:=Di;rw[hr]at DG;rw[hr,BS];exact h.view DG h1 h2 h3 h4 h5 h6 h7
   .rename_i r hr;have BS:eff.wr=[]:=by
     rcases hs.one with e|e
     .exact e.2
     .exact XZ
    obtain⟨rfl,s',h1,h2,h3,rfl,h4⟩:=Di;rw[hr]at DG;rw[hr,BS];exact h.peek DG h1 h2 h3 h4
   .rename_i old q r hr;have BS:eff.wr=[]:=by
     rcases hs.one with e|e
     .exact e.2
     .exact XZ
    obtain⟨hx,s,s',h1,h2,h3,h4,h5,h6,rfl,h7,h8⟩:=Di;rw[hr]at DG;rw[hr,BS];exact h.frz DG hx h1 h2 h3 h4 h5 h6 h7 h8
   .rename_i old q tab r hr;have BS:eff.wr=[]:=by
     rcases hs.one with e|e
     .exact e.2
     .exact XZ
    obtain⟨s,st,k,o,h1,h2,h3,h4,h5,h6,h7,h8,rfl,h9,HU⟩:=Di;rw[hr]at DG;rw[hr,BS];exact h.tset DG h1 h2 h3 h4 h5 h6 h7 h8 h9 HU
end
structure Rec where
 o:Oper
 want:Bool
 nid:Nat
 eff:Eff
def Fz.rec'(F:Fz)(r:Rec):Fz:=F.app r.o.dst r.nid r.eff
def Ll:List Operand->List Nat
 |[]=>[]
 |.tmp t::l=>t::Ll l
 |_::l=>Ll l
def ab4{t:Nat}:∀{l:List Operand},.tmp t∈l->t∈Ll l
 |x::l,h=>by
   rcases ZN.1 h with rfl|h
   .exact bG
   .have ih:=ab4 h;cases x with
    |tmp u=>exact cm _ ih
    |_=>exact ih
def gTs(ops:Array Oper)(o:Oper):List Nat:=
 match o.guard with
 |none=>[]
 |some (g,_)=>((ops[g]?).bind (·.dst)).toList
def Rec.ts(ops:Array Oper)(r:Rec):List Nat:=Ll r.o.op.operands.toList++gTs ops r.o
def Ey(t:Nat):List Nat->Bool
 |[]=>ZC
 |x::l=>Nat.beq x t||Ey t l
def HW(b o:Nat):List (Nat×Nat)->Bool
 |[]=>ZC
 |(x,y)::l=>(Nat.beq x b&&Nat.beq y o)||HW b o l
def al3{l:List Nat}:Ey t l=ZC↔t ∉ l:=by
 induction l with
 |nil=>simp[Ey]
 |cons x l ih=>
   simp only[Ey,Bool.or_eq_false_iff,ih,ZN,not_or];constructor
   .rintro ⟨h1,h2⟩;exact⟨fun e=>by rw[e]at h1;simp at h1,h2⟩
   .rintro ⟨h1,h2⟩;refine⟨?_,h2⟩;cases h:x.beq t
    .rfl
    .exact ak (Ah h).symm h1
def al2{o:Nat}{l:List (Nat×Nat)}:HW b o l=ZC↔(b,o) ∉ l:=by
 induction l with
 |nil=>simp[HW]
 |cons x l ih=>
   obtain⟨x,y⟩:=x;simp only[HW,Bool.or_eq_false_iff,ih,ZN,not_or,Bool.and_eq_false_iff];constructor
   .rintro ⟨h1,h2⟩;refine⟨fun e=> ?_,h2⟩;cases e;rcases h1 with h1|h1<;>simp at h1
   .rintro ⟨h1,h2⟩;refine⟨?_,h2⟩;cases h:x.beq b
    .exact .inl rfl
    .cases h':y.beq o
     .exact .inr rfl
     .exact ak (by rw[Ah h,Ah h']) h1
def wrC(l:List (Nat×Nat×C)):List (Nat×Nat):=l.map fun p=>(p.1,p.2.1)
def Rec.rid(r:Rec):List Nat:=(r.eff.re.rs r.nid).map (·.1)
def Rec.touch(r:Rec):List Nat:=r.eff.rd.map (·.1)++r.eff.wr.map (·.1)
def Rec.alid(r:Rec):List Nat:=match r.eff.al with|some _=>[r.nid]|none=>[]
def SM(ops:Array Oper)(r s:Rec):Bool:=
 (r.o.dst.toList.all fun d=>!Ey d (s.ts ops) &&!Ey d s.o.dst.toList)&&(s.o.dst.toList.all fun d=>!Ey d (r.ts ops))&&
 ((wrC r.eff.wr).all fun p=>!HW p.1 p.2 s.eff.rd &&!HW p.1 p.2 (wrC s.eff.wr))&&((wrC s.eff.wr).all fun p=>!HW p.1 p.2 r.eff.rd)&&
 (r.alid.all fun b=>!Ey b s.touch &&!Ey b s.alid)&&(s.alid.all fun b=>!Ey b r.touch)&&
 (r.rid.all fun b=>!Ey b s.eff.rr &&!Ey b s.rid)&&(s.rid.all fun b=>!Ey b r.eff.rr)
structure Indep(ops:Array Oper)(r s:Rec):Prop where
 d1:∀d,r.o.dst=ZA d->d ∉ s.ts ops
 d2:∀d,r.o.dst=ZA d->s.o.dst≠ZA d
 d3:∀d,s.o.dst=ZA d->d ∉ r.ts ops
 w1:∀p∈r.eff.wr,(p.1,p.2.1) ∉ s.eff.rd
 w2:∀p∈r.eff.wr,∀q∈s.eff.wr,(p.1,p.2.1)≠(q.1,q.2.1)
 w3:∀p∈s.eff.wr,(p.1,p.2.1) ∉ r.eff.rd
 a1:r.eff.al≠ZD->r.nid ∉ s.touch
 a2:r.eff.al≠ZD->s.eff.al≠ZD->r.nid≠s.nid
 a3:s.eff.al≠ZD->s.nid ∉ r.touch
 r1:∀b∈r.rid,b ∉ s.eff.rr
 r2:∀b∈r.rid,b ∉ s.rid
 r3:∀b∈s.rid,b ∉ r.eff.rr
def acy{r s:Rec}(h:SM ops r s=ZB):Indep ops r s:=by
 simp only[SM,ne,Co,ZL,al3,al2,Option.mem_toList]at h;obtain⟨⟨⟨⟨⟨⟨⟨h1,h2⟩,h3⟩,h4⟩,h5⟩,h6⟩,h7⟩,h8⟩:=h;have Dh:∀{x:Rec},x.eff.al≠ZD->x.nid∈x.alid:=fun {x} hx=>by
  unfold Rec.alid;split
  .simp
  next hn=>exact ak hn hx
 refine⟨fun d hd=>(h1 d hd).1,fun d hd=>(h1 d hd).2,fun d hd=>h2 d hd,fun p hp=>(h3 _ (List.mem_map.2 ⟨p,hp,rfl⟩)).1,fun p hp q hq e=>(h3 _ (List.mem_map.2 ⟨p,hp,rfl⟩)).2 (List.mem_map.2 ⟨q,hq,e.symm⟩),
  fun p hp=>h4 _ (List.mem_map.2 ⟨p,hp,rfl⟩),fun hx=>(h5 _ (Dh hx)).1,fun hx hy e=>(h5 _ (Dh hx)).2 (e▸Dh hy),fun hx=>h6 _ (Dh hx),fun b hb=>(h7 b hb).1,fun b hb=>(h7 b hb).2,h8⟩
def Indep.symm{r s:Rec}(h:Indep ops r s):Indep ops s r:=⟨h.d3,fun d hd e=>h.d2 d e hd,h.d1,h.w3,fun p hp q hq e=>h.w2 q hq p hp e.symm,h.w1,h.a3,fun hx hy e=>h.a2 hy hx e.symm,h.a1,h.r3,fun b hb D8=>h.r2 b D8 hb,h.r1⟩
def xG(F:Fz)(p:Nat×Nat×C)(b o:Nat):CX (F.wr p) b o=if b=p.1/\o=p.2.1 then(CX F b o).map (fun _=>p.2.2)else CX F b o:=by
 unfold CX Fz.wr;by_cases hb:b=p.1
 .simp only[hb,aW,true_and];cases F.box p.1 with
  |none=>simp
  |some x=>
    simp only[ZK,Option.bind_some,dY];by_cases ho:o=p.2.1
    .subst ho;simp only[aW];split
     next Ap=>simp[Az Ap]
     next Ap=>simp[bN (Nat.le_of_not_lt Ap)]
    .rw[aa (fun e:p.2.1=o=>ho e.symm),aa ho]
 .simp[hb]
def mO:∀{l:List (Nat×Nat×C)} {F:Fz} {b o:Nat},(∀p∈l,(p.1,p.2.1)≠(b,o))->CX (F.wrs l) b o=CX F b o
 |[],_,_,_,_=>rfl
 |p::l,F,b,o,h=>by have h1:=mO (l:=l) (F:=F.wr p) (b:=b) (o:=o) (fun q hq=>h q (cm _ hq));have h2:=h p bG;show CX ((F.wr p).wrs l) b o=_;rw[h1,xG,aa (fun e=>h2 (by rw[e.1,e.2]))]
def mP:∀{l:List (Nat×Nat×C)} {F F':Fz} {b o:Nat},CX F b o=CX F' b o->CX (F.wrs l) b o=CX (F'.wrs l) b o
 |[],_,_,_,_,h=>h
 |p::l,F,F',b,o,h=>by show CX ((F.wr p).wrs l) b o=CX ((F'.wr p).wrs l) b o;exact mP (by rw[xG,xG,h])
def gR:∀{l:List (Nat×Nat×C)} {F:Fz} {b o:Nat},(CX (F.wrs l) b o).isSome=(CX F b o).isSome
 |[],_,_,_=>rfl
 |p::l,F,b,o=>by have h1:(CX ((F.wr p).wrs l) b o).isSome=_:=gR (l:=l);show(CX ((F.wr p).wrs l) b o).isSome=_;rw[h1,xG];split<;>simp
def aq1(F:Fz)(nid:Nat)(x:List C×Nat)(b o:Nat):CX (F.new nid x) b o=if b=nid then x.1[o]? else CX F b o:=by unfold CX Fz.new;by_cases h:b=nid<;>simp[h]
def aq0(F:Fz)(d:Option Nat)(v:V)(b o:Nat):CX (F.put d v) b o=CX F b o:=rfl
def oO:∀{l:List (Nat×Nat×C)} {F:Fz} {b:Nat},(F.wrs l).box b=ZD↔F.box b=ZD
 |[],_,_=>Iff.rfl
 |p::l,F,b=>by have h1:((F.wr p).wrs l).box b=ZD↔_:=oO (l:=l);show((F.wr p).wrs l).box b=ZD↔_;rw[h1];unfold Fz.wr;by_cases h:b=p.1<;>simp[h]
structure Agree(ops:Array Oper)(r:Rec)(F F':Fz):Prop where
 t:∀t∈r.ts ops,F.tmp t=F'.tmp t
 rd:∀p∈r.eff.rd,CX F p.1 p.2=CX F' p.1 p.2
 wr:∀p∈r.eff.wr,(CX F p.1 p.2.1).isSome=(CX F' p.1 p.2.1).isSome
 nw:r.eff.al≠ZD->(F.box r.nid=ZD↔F'.box r.nid=ZD)
 row:∀b∈r.eff.rr++r.rid,F.row b=F'.row b
def yK(F:Fz)(d:Option Nat)(nid:Nat)(eff:Eff)(t:Nat):(F.app d nid eff).tmp t=if d=ZA t then eff.val else F.tmp t:=by
 unfold Fz.app Fz.put;dsimp only;by_cases h:d=ZA t
 .simp[h]
 .simp only[h,dz];rw[(aX _ _).2.1];split
  .rfl
  .have:∀(l:List (Nat×Nat×C)) (F:Fz),(F.wrs l).tmp=F.tmp:=by
    intro l
    induction l with
    |nil=>intro F;rfl
    |cons p l ih=>intro F;exact ih (F.wr p)
   rw[this]
def aqZ(F:Fz)(l:List (Nat×Option RowOb))(b o:Nat):CX (F.rws l) b o=CX F b o:=by unfold CX;rw[(aX l F).1]
def od(F:Fz)(d:Option Nat)(nid:Nat)(eff:Eff)(b o:Nat):CX (F.app d nid eff) b o=match eff.al with|some x=>if b=nid then x.1[o]? else CX F b o|none=>CX (F.wrs eff.wr) b o:=by
 unfold Fz.app;rw[aq0,aqZ];cases eff.al with
 |some x=>exact aq1 F nid x b o
 |none=>rfl
def kj(F:Fz)(d:Option Nat)(nid:Nat)(eff:Eff)(b:Nat):(F.app d nid eff).box b=ZD↔match eff.al with|some _=>b≠nid/\F.box b=ZD|none=>F.box b=ZD:=by
 unfold Fz.app Fz.put;dsimp only;rw[(aX _ _).1];cases eff.al with
 |some x=>unfold Fz.new;by_cases h:b=nid<;>simp[h]
 |none=>exact oO
def TV:∀(l:List (Nat×Nat×C)) (F:Fz),(F.wrs l).lp=F.lp
 |[],F=>rfl
 |p::l,F=>TV l (F.wr p)
def tM:∀(l:List (Nat×Nat×C)) (F:Fz),(F.wrs l).row=F.row
 |[],_=>rfl
 |p::l,F=>tM l (F.wr p)
def iC:∀(l:List (Nat×Option RowOb)) (F:Fz) (b:Nat),b ∉ l.map (·.1)->(F.rws l).row b=F.row b
 |[],_,_,_=>rfl
 |p::l,F,b,h=>by simp only[YR,ZN,not_or]at h;have h1:=iC l (F.rw1 p) b h.2;show((F.rw1 p).rws l).row b=_;rw[h1];simp[Fz.rw1,h.1]
def gg:∀(l:List (Nat×Option RowOb)) (F F':Fz) (b:Nat),F.row b=F'.row b->(F.rws l).row b=(F'.rws l).row b
 |[],_,_,_,h=>h
 |p::l,F,F',b,h=>gg l (F.rw1 p) (F'.rw1 p) b (by simp only[Fz.rw1];split<;>simp_all)
def zw(F:Fz)(d:Option Nat)(nid:Nat)(eff:Eff):(F.app d nid eff).row=(F.rws (eff.re.rs nid)).row:=by
 unfold Fz.app Fz.put;dsimp only;funext b;apply gg;split
 .rfl
 .rw[tM]
def Agree.refl(ops:Array Oper)(r:Rec)(F:Fz):Agree ops r F F:=⟨fun _ _=>rfl,fun _ _=>rfl,fun _ _=>rfl,fun _=>Iff.rfl,fun _ _=>rfl⟩
def Agree.trans{r:Rec}{F F' F'':Fz}(h:Agree ops r F F')(h':Agree ops r F' F''):Agree ops r F F'':=⟨fun t ht=>(h.t t ht).trans (h'.t t ht),fun p hp=>(h.rd p hp).trans (h'.rd p hp),fun p hp=>(h.wr p hp).trans (h'.wr p hp),fun hx=>(h.nw hx).trans (h'.nw hx),fun b hb=>(h.row b hb).trans (h'.row b hb)⟩
def Agree.symm{r:Rec}{F F':Fz}(h:Agree ops r F F'):Agree ops r F' F:=⟨fun t ht=>(h.t t ht).symm,fun p hp=>(h.rd p hp).symm,fun p hp=>(h.wr p hp).symm,fun hx=>(h.nw hx).symm,fun b hb=>(h.row b hb).symm⟩
def Agree.congr{r s:Rec}{F F':Fz}(h:Agree ops r F F'):Agree ops r (F.rec' s) (F'.rec' s):=by
 unfold Fz.rec';refine⟨fun t ht=>by rw[yK,yK,h.t t ht],fun p hp=> ?_,fun p hp=> ?_,fun hx=> ?_,fun b hb=>by rw[zw,zw];exact gg _ _ _ b (h.row b hb)⟩
 .rw[od,od];split
  .rw[h.rd p hp]
  .exact mP (h.rd p hp)
 .rw[od,od];split
  .split
   .rfl
   .exact h.wr p hp
  .rw[gR,gR];exact h.wr p hp
 .rw[kj,kj];split
  .rw[h.nw hx]
  .exact h.nw hx
def Agree.step{r s:Rec}(hi:Indep ops s r)(F:Fz):Agree ops r F (F.rec' s):=by
 unfold Fz.rec';refine⟨fun t ht=> ?_,fun p hp=> ?_,fun p hp=> ?_,fun hx=> ?_,fun b hb=> ?_⟩
 .rw[yK,aa (fun e=>hi.d1 t e ht)]
 .rw[od];split
  next x Dh=>rw[aa (fun e=>hi.a1 (by rw[Dh];simp) (by rw[<-e];exact YZ _ (List.mem_map.2 ⟨p,hp,rfl⟩)))]
  .exact(mO (fun q hq e=>hi.w1 q hq (by rw[e];exact hp))).symm
 .rw[od];split
  next x Dh=>rw[aa (fun e=>hi.a1 (by rw[Dh];simp) (by rw[<-e];exact ZW _ (List.mem_map.2 ⟨p,hp,rfl⟩)))]
  .rw[gR]
 .rw[kj];split
  .rename_i x Dh;constructor
   .intro h;exact⟨fun e=>hi.a2 (by rw[Dh];simp) hx e.symm,h⟩
   .exact fun h=>h.2
  .exact Iff.rfl
 .rw[zw,iC];intro hm;rcases List.mem_append.1 hb with hb|hb
  .exact hi.r1 b hm hb
  .exact hi.r2 b hm hb
def apn(F:Fz)(p q:Nat×Nat×C)(h:(p.1,p.2.1)≠(q.1,q.2.1)):(F.wr p).wr q=(F.wr q).wr p:=by
 refine Fz.ext' (fun _=>rfl) (fun b=> ?_) (fun _=>rfl) (fun _=>rfl);unfold Fz.wr;dsimp only;by_cases h1:b=p.1
 .by_cases h2:b=q.1
  .have hpq:p.1=q.1:=h1.symm.trans h2;have ho:p.2.1≠q.2.1:=fun e=>h (by rw[hpq,e]);simp only[h1,hpq,aW];cases F.box q.1 with
   |none=>rfl
   |some x=>simp[List.set_comm _ _ ho]
  .simp[h1,h2,show¬p.1=q.1 from fun e=>h2 (h1.trans e)]
 .by_cases h2:b=q.1
  .simp[h1,h2,show¬q.1=p.1 from fun e=>h1 (h2.trans e)]
  .simp[h1,h2]
def amF(p:Nat×Nat×C):∀(l:List (Nat×Nat×C)) (F:Fz),(∀q∈l,(p.1,p.2.1)≠(q.1,q.2.1))->(F.wr p).wrs l=(F.wrs l).wr p
 |[],_,_=>rfl
 |q::l,F,h=>by show((F.wr p).wr q).wrs l=((F.wr q).wrs l).wr p;rw[apn F p q (h q bG)];exact amF p l (F.wr q) (fun x hx=>h x (cm _ hx))
def aeC:∀(l m:List (Nat×Nat×C)) (F:Fz),(∀p∈l,∀q∈m,(p.1,p.2.1)≠(q.1,q.2.1))->(F.wrs l).wrs m=(F.wrs m).wrs l
 |[],_,_,_=>rfl
 |p::l,m,F,h=>by show((F.wr p).wrs l).wrs m=((F.wrs m).wr p).wrs l;rw[aeC l m (F.wr p) (fun x hx=>h x (cm _ hx)),amF p m F (h p bG)]
def zJ(nid:Nat)(x:List C×Nat):∀(l:List (Nat×Nat×C)) (F:Fz),(∀q∈l,q.1≠nid)->(F.new nid x).wrs l=(F.wrs l).new nid x
 |[],_,_=>rfl
 |q::l,F,h=>by
   show((F.new nid x).wr q).wrs l=((F.wr q).wrs l).new nid x;have h1:=h q bG;have:(F.new nid x).wr q=(F.wr q).new nid x:=by
    refine Fz.ext' (fun _=>rfl) (fun b=> ?_) (fun _=>rfl) (fun _=>rfl);unfold Fz.wr Fz.new;dsimp only;by_cases hb:b=nid
    .simp[hb,show¬nid=q.1 from fun e=>h1 e.symm]
    .simp[hb]
   rw[this];exact zJ nid x l (F.wr q) (fun y hy=>h y (cm _ hy))
def ahu(d:Option Nat)(v:V):∀(l:List (Nat×Nat×C)) (F:Fz),(F.put d v).wrs l=(F.wrs l).put d v
 |[],_=>rfl
 |q::l,F=>ahu d v l (F.wr q)
def zD(d:Option Nat)(v:V):∀(l:List (Nat×Option RowOb)) (F:Fz),(F.put d v).rws l=(F.rws l).put d v
 |[],_=>rfl
 |q::l,F=>zD d v l (F.rw1 q)
def aql(l:List (Nat×Option RowOb))(m:List (Nat×Nat×C))(F:Fz):(F.rws l).wrs m=(F.wrs m).rws l:=by
 refine Fz.ext' (fun t=> ?_) (fun b=> ?_) (fun b=> ?_) (fun b=>by rw[TV,(aX l F).2.2,(aX l _).2.2,TV])
 .have t1:∀(m:List (Nat×Nat×C)) (F:Fz),(F.wrs m).tmp=F.tmp:=by
   intro m
   induction m with
   |nil=>intro F;rfl
   |cons p m ih=>intro F;exact ih (F.wr p)
  rw[t1,(aX l F).2.1,(aX l _).2.1,t1]
 .have b1:∀(m:List (Nat×Nat×C)) (F F':Fz),F.box=F'.box->(F.wrs m).box=(F'.wrs m).box:=by
   intro m
   induction m with
   |nil=>intro F F' h;exact h
   |cons p m ih=>intro F F' h;exact ih _ _ (by simp only[Fz.wr,h])
  rw[(aX l _).1,b1 m (F.rws l) F (aX l F).1]
 .rw[tM];exact gg l F (F.wrs m) b (by rw[tM])
def aqn(l:List (Nat×Option RowOb))(nid:Nat)(x:List C×Nat)(F:Fz):(F.rws l).new nid x=(F.new nid x).rws l:=by
 refine Fz.ext' (fun t=> ?_) (fun b=> ?_) (fun b=> ?_) (fun b=>by rw[(aX l _).2.2];exact congrFun (aX l F).2.2 b)
 .rw[(aX l _).2.1];exact congrFun (aX l F).2.1 t
 .rw[(aX l _).1];simp only[Fz.new,(aX l F).1]
 .exact gg l F (F.new nid x) b rfl
def aqm:∀(l m:List (Nat×Option RowOb)) (F:Fz),(∀b∈l.map (·.1),b ∉ m.map (·.1))->(F.rws l).rws m=(F.rws m).rws l
 |l,m,F,h=>by
   refine Fz.ext' (fun t=> ?_) (fun b=> ?_) (fun b=> ?_) (fun b=>by rw[(aX m _).2.2,(aX l _).2.2,(aX l _).2.2,(aX m _).2.2])
   .rw[(aX m _).2.1,(aX l _).2.1,(aX l _).2.1,(aX m _).2.1]
   .rw[(aX m _).1,(aX l _).1,(aX l _).1,(aX m _).1]
   .by_cases hl:b∈l.map (·.1)
    .rw[iC m _ b (h b hl)];exact gg l F (F.rws m) b (iC m F b (h b hl)).symm
    .rw[iC l _ b hl];exact gg m (F.rws l) F b (iC l F b hl)
def Rec.bx(r:Rec)(F:Fz):Fz:=match r.eff.al with|some x=>F.new r.nid x|none=>F.wrs r.eff.wr
def RN(r:Rec)(F:Fz):F.rec' r=((r.bx F).rws (r.eff.re.rs r.nid)).put r.o.dst r.eff.val:=rfl
def aog(r:Rec)(d:Option Nat)(v:V)(F:Fz):r.bx (F.put d v)=(r.bx F).put d v:=by
 unfold Rec.bx;split
 .rfl
 .exact ahu d v _ F
def aof(r:Rec)(l:List (Nat×Option RowOb))(F:Fz):r.bx (F.rws l)=(r.bx F).rws l:=by
 unfold Rec.bx;split
 .exact aqn l _ _ F
 .exact aql l _ F
def ar8{r s:Rec}(h:Indep ops r s)(F:Fz):s.bx (r.bx F)=r.bx (s.bx F):=by
 unfold Rec.bx;cases hr:r.eff.al with
 |some x=>
   cases hs:s.eff.al with
   |some y=>
     refine Fz.ext' (fun _=>rfl) (fun b=> ?_) (fun _=>rfl) (fun _=>rfl);unfold Fz.new;dsimp only;have Bg:=h.a2 (by rw[hr];simp) (by rw[hs];simp);by_cases h1:b=s.nid<;>by_cases h2:b=r.nid<;>simp[h1,h2]
     .exact ak (h2.symm.trans h1) Bg
     .intro e;exact ak e.symm Bg
     .intro e;exact ak e Bg
   |none=>have hq:∀q∈s.eff.wr,q.1≠r.nid:=fun q hq e=>h.a1 (by rw[hr];simp) (by rw[<-e];exact ZW _ (List.mem_map.2 ⟨q,hq,rfl⟩));exact zJ _ _ _ F hq
 |none=>
   cases hs:s.eff.al with
   |some y=>have hq:∀q∈r.eff.wr,q.1≠s.nid:=fun q hq e=>h.a3 (by rw[hs];simp) (by rw[<-e];exact ZW _ (List.mem_map.2 ⟨q,hq,rfl⟩));exact(zJ _ _ _ F hq).symm
   |none=>exact aeC _ _ F h.w2
def abV{r s:Rec}(h:Indep ops r s)(F:Fz):(F.rec' r).rec' s=(F.rec' s).rec' r:=by
 have hp:∀F:Fz,(F.put r.o.dst r.eff.val).put s.o.dst s.eff.val=(F.put s.o.dst s.eff.val).put r.o.dst r.eff.val:=by intro F;refine Fz.ext' (fun t=> ?_) (fun _=>rfl) (fun _=>rfl) (fun _=>rfl);unfold Fz.put;dsimp only;by_cases h1:s.o.dst=ZA t<;>by_cases h2:r.o.dst=ZA t<;>simp[h1,h2];exact ak h1 (h.d2 t h2)
 rw[RN s,RN r,RN r,RN s,aog,aof,zD,hp,ar8 h,aqm _ _ _ (fun b hb=>h.r2 b hb),aog,aof,zD]
open Go
section
variable {P:Program}{ρ:Env}{n:Nat}{X:List Value}{W0:Wb}{fb:Nat->Option (List C)}{F:Fz}{j:J}{a:Act}{w:World}
def Fz.setl(F:Fz)(id:Nat)(x:Option Lp):Fz:={F with lp:=fun b=>if b=id then x else F.lp b}
def Fz.endl(F:Fz)(id:Nat):Fz:={F with lp:=fun b=>if b=id then ZD else F.lp b,row:=fun b=>if b=id then ZA ZD else F.row b}
def aiS(w:World)(l:Nat)(o:Obj):w.grownBy (w.putObj l o) (ZA l):=⟨rfl,rfl,rfl,by simp,fun k _ hk=>World.putObj_heap_other (fun e=>hk (by rw[e]))⟩
def Rel.putz(h:Rel ρ n X W0 fb F j a w){l:Nat}{o:Obj}(hz:j.g.z l=ZA o)(ho:B6 o=ZC)(o':Obj)(x:Option Obj){F':Fz}{rf:Option Rf}(ht:F'.tmp=F.tmp)(hbx:F'.box=F.box)(EZ:∀b r,F'.row b=ZA (ZA r)->F.row b=ZA (ZA r))(hrn:∀b,F'.row b=ZD->F.row b=ZD)
  {M:List Nat} {top:Bool} (Bw:a.defers=({W0 with M:=M,top:=top,rf:=rf}:Wb).ds) (hM:∀D∈M,D∈W0.M/\D≠l) (EA:M.Nodup) (hx:∀y,x=ZA y->y=o')
  (hlp:∀id y,F'.lp id=ZA y->∃r o,rf=ZA r/\j.g.y id=ZA r.l/\(j.setz l x).g.z r.l=ZA (.loop o)/\LoopIs r y o) (hnol:∀id,F'.row id=ZD->F'.lp id=ZD->j.g.y id=ZD):
  Rel ρ n X {W0 with M:=M,top:=top,rf:=rf} fb F' (j.setz l x) a (w.putObj l o'):=by
 have hs:=aa2 j l x;obtain⟨GY,hl0⟩:=h.gs.at' l o hz;have J5:=hl0 ho;have Ap:=h.gs.lt hz;have Dy:∀k,k≠l->(w.putObj l o').heap[k]? =w.heap[k]? :=fun k hk=>World.putObj_heap_other hk;have hext:Ext W0.w (w.putObj l o'):=h.ext.grown' (aiS w l o') (fun k hk=>by cases hk;exact J5);refine⟨Bw,h.size,fun t ht'=> ?_,fun i v hi=> ?_,fun b cs ty hF=> ?_,fun b hF=> ?_,h.inj,fun b r hF=> ?_,fun b hF=>h.nor b (hrn b hF),fun b b' k r s h1 h2 h3=>h.sep b b' k r s h1 (EZ b' r h2) h3,fun b b' r r' s s' k h1 h2 h3=>h.rsep b b' r r' s s' k (EZ b r h1) h2 (EZ b' r' h3),fun b cs hF=> ?_,hext,⟨fun k o1 hk=> ?_,fun k o1 b hk=> ?_,fun k o1 id r s hk hF Bi hc=> ?_,fun D hD=> ?_,EA,hlp,hnol,fun id r s hF Bi p hp=> ?_,fun id r s hF hk Bi=> ?_⟩⟩
 .obtain⟨v,h1,h2⟩:=h.tmp t ht';exact⟨v,h1,by rw[ht];exact h2.imp id (V.den_sub hs)⟩
 .rw[ht];exact(h.sav i v hi).imp id (V.den_sub hs)
 .rw[hbx]at hF;obtain⟨k,vs,h1,h2,h3,h4⟩:=h.box b cs ty hF;exact⟨k,vs,h1,h2,bF hs h3,by rw[Dy k (fun e=>h.gs.box l o b hz (e▸h1))];exact h4⟩
 .rw[hbx]at hF;exact h.nob b hF
 .obtain⟨s,h1,h2⟩:=h.row b r (EZ b r hF);exact⟨s,h1,h2.kept (by simp) (fun k hk=>Dy k (fun e=>h.gs.row l o b r s hz (EZ b r hF) h1 (.inr ho) (e▸hk)))⟩
 .obtain⟨k,vs,h1,h2,h3,h4⟩:=h.fb b cs hF;refine⟨k,vs,h1,h2,bF hs h3,fun o1 v ho1 Cj=> ?_⟩;rw[World.cell?_of_block (a:=⟨k,o1,ZD⟩) (Dy k (by have:k<W0.heap.size:=h2;omega))];exact h4 o1 v ho1 Cj
 .simp only[J.setz,Gh.setz]at hk;by_cases e:k=l
  .subst e;rw[ae rfl]at hk;rw[hx o1 hk];exact⟨World.putObj_heap_same Ap,fun _=>J5⟩
  .rw[aa e]at hk;rw[Dy k e];exact h.gs.at' k o1 hk
 .simp only[J.setz,Gh.setz]at hk;by_cases e:k=l
  .subst e;exact h.gs.box k o b hz
  .rw[aa e]at hk;exact h.gs.box k o1 b hk
 .simp only[J.setz,Gh.setz]at hk;by_cases e:k=l
  .subst e;exact h.gs.row k o id r s hz (EZ id r hF) Bi (.inr ho)
  .rw[aa e]at hk;exact h.gs.row k o1 id r s hk (EZ id r hF) Bi hc
 .obtain⟨h1,h2⟩:=hM D hD;show(if D=l then x else j.g.z D)=_;rw[aa h2];exact h.gs.md D h1
 .obtain⟨h1,h2⟩:=h.gs.ev id r s (EZ id r hF) Bi p hp;refine⟨?_,h2⟩;show(if p.1=l then x else j.g.z p.1)=_;rw[aa (fun e=>by rw[e,hz]at h1;cases h1;rw[ho]at h2;cases h2)];exact h1
 .refine(h.gs.tb id r s (EZ id r hF) hk Bi).mono rfl rfl (fun k o1 hc EX=> ?_) (fun g ha=>Dy g (fun e=>h.gs.row l o id r s hz (EZ id r hF) Bi (.inr ho) (e▸(h.tabBlk (EZ id r hF) hk Bi ha).1)));show(if k=l then x else j.g.z k)=_;rw[aa (fun e=>by rw[e,hz]at EX;cases EX;rw[ho]at hc;cases hc)];exact EX
def Rel.lpZ(h:Rel ρ n X W0 fb F j a w){id:Nat}(hy:F.lp id=ZA y):∃rf o,W0.rf=ZA rf/\j.g.y id=ZA rf.l/\j.g.z rf.l=ZA (.loop o)/\w.heap[rf.l]? =ZA (.loop o)/\LoopIs rf y o/\rf.l ∉ W0.M:=by obtain⟨rf,o,h1,h2,h3,h4⟩:=h.gs.lp id y hy;refine⟨rf,o,h1,h2,h3,(h.gs.at' _ _ h3).1,h4,fun hm=> ?_⟩;have:=h.gs.md _ hm;rw[h3]at this;cases this
def Rel.loopSet(h:Rel ρ n X W0 fb F j a w){id:Nat}(hy:F.lp id=ZA y)(H9:∀i yi,F.lp i=ZA yi->i=id){rf:Rf}{o:Loop}(Hn:W0.rf=ZA rf)(h2:j.g.y id=ZA rf.l)(hz:j.g.z rf.l=ZA (.loop o)){y':Lp}{o':Loop}(hi:LoopIs rf y' o'):
  Rel ρ n X W0 fb (F.setl id (ZA y')) (j.setz rf.l (ZA (.loop o'))) a (w.putObj rf.l (.loop o')):=by
 have hm:rf.l ∉ W0.M:=fun hm=>by have:=h.gs.md _ hm;rw[hz]at this;cases this
 refine h.putz (F':=F.setl id (ZA y')) (M:=W0.M) (top:=W0.top) (rf:=W0.rf) hz rfl (.loop o') (ZA (.loop o')) rfl rfl (fun _ _ h=>h) (fun _ h=>h) h.defers (fun D hD=>⟨hD,fun e=>hm (e▸hD)⟩) h.gs.nd (fun y e=>(YL e).symm) (fun i yi HH=> ?_) (fun i hF hl=> ?_)
 .simp only[Fz.setl]at HH;by_cases e:i=id
  .rw[ae e]at HH;cases HH;refine⟨rf,o',Hn,by rw[e];exact h2,by simp[J.setz,Gh.setz],hi⟩
  .rw[aa e]at HH;exact ak (H9 i yi HH) e
 .simp only[Fz.setl]at hl;by_cases e:i=id
  .rw[ae e]at hl;cases hl
  .rw[aa e]at hl;exact h.gs.nol i hF hl
def Rel.loopEnd(h:Rel ρ n X W0 fb F j a w){id:Nat}(hy:F.lp id=ZA y)(H9:∀i yi,F.lp i=ZA yi->i=id){rf:Rf}{o:Loop}(hz:j.g.z rf.l=ZA (.loop o))(o':Obj):
  Rel ρ n X {W0 with rf:=ZD} fb (F.endl id) (j.setz rf.l ZD) a (w.putObj rf.l o'):=by
 have hm:rf.l ∉ W0.M:=fun hm=>by have:=h.gs.md _ hm;rw[hz]at this;cases this
 refine h.putz (F':=F.endl id) (M:=W0.M) (top:=W0.top) (rf:=ZD) hz rfl o' ZD rfl rfl (fun b r hb=> ?_) (fun b hb=> ?_) h.defers (fun D hD=>⟨hD,fun e=>hm (e▸hD)⟩) h.gs.nd (fun y e=>by cases e) (fun i yi HH=> ?_) (fun i hF hl=> ?_)
 .simp only[Fz.endl]at hb;split at hb
  .cases hb
  .exact hb
 .simp only[Fz.endl]at hb;split at hb
  .cases hb
  .exact hb
 .simp only[Fz.endl]at HH;split at HH
  .cases HH
  next e=>exact ak (H9 i yi HH) e
 .simp only[Fz.endl]at hF hl;split at hF
  .exact XQ
  next e=>rw[aa e]at hl;exact h.gs.nol i hF hl
def Rel.loopNew(h:Rel ρ n X W0 fb F j a w){id:Nat}(AG:F.row id=ZD)(hlp:F.lp id=ZD)(Hn:W0.rf=ZD)(Ld:W0.top=ZB){rf:Rf}{o:Loop}(hl:rf.l=w.heap.size+1)(hi:LoopIs rf ⟨.ready,ZD⟩ o):
  Rel ρ n X {W0 with M:=w.heap.size::W0.M,rf:=ZA rf} fb (F.setl id (ZA ⟨.ready,ZD⟩)) {j with g:=⟨fun b=>if b=id then ZA rf.l else j.g.y b,fun k=>if k=rf.l then ZA (.loop o)else if k=w.heap.size then ZA (.deferred (ZA []))else j.g.z k⟩}
   {a with defers:={target:=.collected w.heap.size,args:= #[]}::a.defers} ((w.alloc (.deferred (ZA []))).alloc (.loop o)):=by
 have x1:Ext w (w.alloc (.deferred (ZA []))):=(Ext.refl w).alloc _;have x2:Ext (w.alloc (.deferred (ZA []))) ((w.alloc (.deferred (ZA []))).alloc (.loop o)):=(Ext.refl _).alloc _;have h':=(h.more x1).more x2;have sz1:(w.alloc (.deferred (ZA []))).heap.size=w.heap.size+1:=World.size_alloc _ _;have nol:=h.gs.nol id AG hlp;have hs:Sub j {j with g:=⟨fun b=>if b=id then ZA rf.l else j.g.y b,fun k=>if k=rf.l then ZA (.loop o)else if k=w.heap.size then ZA (.deferred (ZA []))else j.g.z k⟩}:=⟨fun _ _ h=>h,fun _ _ h=>h,fun _ _ h=>h,fun b k hb=>by
  show(if b=id then ZA rf.l else j.g.y b)=ZA k;by_cases e:b=id
  .subst e;rw[nol]at hb;cases hb
  .rw[aa e];exact hb⟩
 have hL:((w.alloc (.deferred (ZA []))).alloc (.loop o)).heap[w.heap.size+1]? =ZA (.loop o):=by have:=World.alloc_heap_new (w.alloc (.deferred (ZA []))) (.loop o);rwa [sz1]at this
 have hD:((w.alloc (.deferred (ZA []))).alloc (.loop o)).heap[w.heap.size]? =ZA (.deferred (ZA [])):=(x2.block _ (by rw[sz1];omega)).trans (World.alloc_heap_new w _);have CP:=h.ext.size;have PD:∀b k,j.b b=ZA k->k<w.heap.size:=fun b k hb=>by obtain⟨_,_,_,_,_,_,_,Ap⟩:=h.lt hb;exact Ap
 have IL:∀b r s k,F.row b=ZA (ZA r)->j.s b=ZA s->s.blk r.own=ZA k->k<w.heap.size:=fun b r s k hF hs hk=>by obtain⟨s',h1,h2⟩:=h.row b r hF;rw[hs]at h1;cases h1;exact h2.lt k hk
 have KF:∀k o1,(if k=rf.l then ZA (.loop o)else if k=w.heap.size then ZA (.deferred (ZA []))else j.g.z k)=ZA o1->(k=w.heap.size+1/\o1=.loop o)\/(k=w.heap.size/\o1=.deferred (ZA []))\/(k<w.heap.size/\j.g.z k=ZA o1):=by
  intro k o1 hk;by_cases e:k=rf.l
  .rw[ae e]at hk;exact .inl ⟨e.trans hl,(YL hk).symm⟩
  .rw[aa e]at hk;by_cases e2:k=w.heap.size
   .rw[ae e2]at hk;exact .inr (.inl ⟨e2,(YL hk).symm⟩)
   .rw[aa e2]at hk;exact .inr (.inr ⟨h.gs.lt hk,hk⟩)
 refine⟨by simp only[h.defers,Wb.ds,Ld,aW,YR],h.size,fun t ht=> ?_,fun i v A6=>(h'.sav i v A6).imp _root_.id (V.den_sub hs),fun b cs ty hF=> ?_,h'.nob,h'.inj,h'.row,h'.nor,h'.sep,h'.rsep,fun b cs hF=> ?_,h'.ext,⟨fun k o1 hk=> ?_,fun k o1 b hk e=> ?_,fun k o1 b r s hk hF Bi hc e=> ?_,fun D LH=> ?_,?_,fun i yi HH=> ?_,fun i hF B0=> ?_,fun i r s hF Bi p hp=> ?_,fun i r s hF hk Bi=> ?_⟩⟩
 .obtain⟨v,h1,h2⟩:=h'.tmp t ht;exact⟨v,h1,h2.imp _root_.id (V.den_sub hs)⟩
 .obtain⟨k,vs,h1,h2,h3,h4⟩:=h'.box b cs ty hF;exact⟨k,vs,h1,h2,bF hs h3,h4⟩
 .obtain⟨k,vs,h1,h2,h3,h4⟩:=h'.fb b cs hF;exact⟨k,vs,h1,h2,bF hs h3,h4⟩
 .rcases KF k o1 hk with⟨rfl,rfl⟩|⟨rfl,rfl⟩|⟨h1,h2⟩
  .exact⟨hL,fun _=>by show W0.heap.size<=_;have:W0.heap.size<=w.heap.size:=CP;omega⟩
  .exact⟨hD,fun _=>CP⟩
  .exact h'.gs.at' k o1 h2
 .have:=PD b k e;rcases KF k o1 hk with⟨rfl,rfl⟩|⟨rfl,rfl⟩|⟨h1,h2⟩
  .exact Fn
  .exact Fn
  .exact h.gs.box k o1 b h2 e
 .have:=IL b r s k hF Bi e;rcases KF k o1 hk with⟨rfl,rfl⟩|⟨rfl,rfl⟩|⟨h1,h2⟩
  .exact Fn
  .exact Fn
  .exact h.gs.row k o1 b r s h2 hF Bi hc e
 .show(if D=rf.l then ZA (.loop o)else if D=w.heap.size then ZA (.deferred (ZA []))else j.g.z D)=_;rcases ZN.1 LH with rfl|LH
  .rw[aa Fn,ae rfl]
  .have h1:=h.gs.md D LH;have h2:=h.gs.lt h1;rw[aa Fn,aa Fn];exact h1
 .refine List.nodup_cons.2 ⟨fun hm=> ?_,h.gs.nd⟩;have:=h.gs.lt (h.gs.md _ hm);omega
 .simp only[Fz.setl]at HH;by_cases e:i=id
  .rw[ae e]at HH;cases HH;exact⟨rf,o,rfl,by simp[e],by simp,hi⟩
  .rw[aa e]at HH;obtain⟨_,_,h1,_⟩:=h.gs.lp i yi HH;rw[Hn]at h1;cases h1
 .simp only[Fz.setl]at B0;by_cases e:i=id
  .rw[ae e]at B0;cases B0
  .rw[aa e]at B0;show(if i=id then ZA rf.l else j.g.y i)=ZD;rw[aa e];exact h.gs.nol i hF B0
 .obtain⟨h1,h2⟩:=h.gs.ev i r s hF Bi p hp;have h3:=h.gs.lt h1;refine⟨?_,h2⟩;show(if p.1=rf.l then ZA (.loop o)else if p.1=w.heap.size then ZA (.deferred (ZA []))else j.g.z p.1)=_;rw[aa Fn,aa Fn];exact h1
 .refine(h.gs.tb i r s hF hk Bi).mono rfl rfl (fun k o1 _ EX=> ?_) (fun g ha=> ?_)
  .have h3:=h.gs.lt EX;show(if k=rf.l then ZA (.loop o)else if k=w.heap.size then ZA (.deferred (ZA []))else j.g.z k)=_;rw[aa Fn,aa Fn];exact EX
  .have h3:=(h.tabBlk hF hk Bi ha).2;exact(x2.block g Fn).trans (x1.block g h3)
def Rel.unmark:∀(M:List Nat) {W0:Wb} {F:Fz} {j:J} {a:Act} {w:World},W0.M=M->Rel ρ n X W0 fb F j a w->∀{fn:Func} {R:Ending->World->Prop} {F1:Fence} {m:Nat} {tm:Array Value},(∀j' w',Rel ρ n X {W0 with M:=[]} fb F j' {a with defers:=({W0 with M:=[]}:Wb).ds} w'->LeavesInM F1 m P fn tm R [] .returning w')->
   LeavesInM F1 m P fn tm R (M.map fun D=>{target:=.collected D,args:= #[]}) .returning w
 |[],W0,F,j,a,w,hM,h,fn,R,F1,m,tm,hk=>by obtain⟨w0,M,top,rf,HG,K8⟩:=W0;cases hM;refine hk j w ?_;have:=h.defers;obtain⟨t,d⟩:=a;cases this;exact h
 |D::M,W0,F,j,a,w,hM,h,fn,R,F1,m,tm,hk=>by
   obtain⟨w0,M0,top,rf,HG,K8⟩:=W0;cases hM;have hz:=h.gs.md D bG;have EA:=List.nodup_cons.1 h.gs.nd;refine⟨(by simp),.inl ⟨D,_,rfl,run_takeDeferred (h.gs.at' _ _ hz).1,?_⟩⟩;have h1:Rel ρ n X ⟨w0,M,top,rf,HG,K8⟩ fb F (j.setz D ZD) {a with defers:=(⟨w0,M,top,rf,HG,K8⟩:Wb).ds} (w.putObj D (.deferred ZD)):=by
    have h0:Rel ρ n X ⟨w0,D::M,top,rf,HG,K8⟩ fb F j a w:=h;have:=Rel.putz (M:=M) (top:=top) (rf:=rf) (F':=F) (a:={a with defers:=(⟨w0,M,top,rf,HG,K8⟩:Wb).ds}) (W0:=⟨w0,M,top,rf,HG,K8⟩) (w:=w) (j:=j) (n:=n) (X:=X) (fb:=fb) (ρ:=ρ) (F:=F) ⟨rfl,h0.size,h0.tmp,h0.sav,h0.box,h0.nob,h0.inj,h0.row,h0.nor,h0.sep,h0.rsep,h0.fb,h0.ext,⟨h0.gs.at',h0.gs.box,h0.gs.row,fun D' LH=>h0.gs.md D' (cm _ LH),EA.2,h0.gs.lp,h0.gs.nol,h0.gs.ev,h0.gs.tb⟩⟩ hz rfl (.deferred ZD) ZD rfl rfl (fun _ _ h=>h) (fun _ h=>h) rfl (fun D' LH=>⟨LH,fun e=>EA.1 (e▸LH)⟩) EA.2 (fun y e=>by cases e) (fun id y hy=> ?_) h0.gs.nol
    .exact this
    .obtain⟨r,o,g1,g2,g3,g4⟩:=h0.gs.lp id y hy;refine⟨r,o,g1,g2,?_,g4⟩;show(if r.l=D then ZD else j.g.z r.l)=_;rw[aa (fun e=>by rw[e,hz]at g3;cases g3)];exact g3
   exact Rel.unmark M (W0:=⟨w0,M,top,rf,HG,K8⟩) rfl h1 (fun j' w' h2=>hk j' w' h2)
end
def Fw(ro:Option Nat):Fence:={Fence.wide with round:=ro}
section
variable {P:Program}{ro:Option Nat}{n:Nat}{ops:Array Oper}{Q:Exit->Act->World->Prop}
def RT{p:Prop}:(Fw ro).depth.isSome=ZB->p:=fun h=>by cases h
def kJ{f:FuncId}{args:Array Value}{R:Ending->World->Prop}:CallsIn (Fw ro) n P f args w R↔Calls P f args w R:= @callsIn_wide n P f args w R
def nF{m m':Machine}:StepsIn (Machine.fenced P (Fw ro)) P m m'↔Steps P m m':= @stepsIn_wide P m m'
def io{K:Act->World->Prop}(EA:∀c,o.op≠.defer c)(h:o.wp P a w K Q):o.wpIn (Fw ro) n P a w K Q:=by
 refine⟨fun _ _=>trivial,?_⟩;rw[Oper.semAt_eq _ _ _ EA];unfold Oper.wp at h;generalize (execOp a.eval o).run P w=r at *;cases r with
 |ok x w'=>
   cases x with
   |value v=>exact h
   |skip=>exact h
   |defer d=>exact h
   |enter f args=>exact⟨RT,kJ.2 h⟩
   |row row args=>refine⟨RT,fun c cs hr=> ?_⟩;obtain⟨v,Mk,h1,h2⟩:=h c cs;exact⟨v,Mk,h1,nF.2 h2⟩
   |_=>exact h.elim
 |halt x w'=>cases x<;>first|exact h|exact h.elim
def alw(h:o.wp P a w (fun a' _=>a'.defers=a.defers) (fun _ _ _=>False)):∀c,o.op≠.defer c:=by
 intro c hc;unfold Oper.wp at h;have:∃r:Result Deferred,(execOp a.eval o).run P w=r.andThen fun d w=>.ok (.defer d) w:=⟨(resolve a.eval c o.type).run P w,by simp only[execOp,hc,ZH,Sem.run_pure]⟩
 obtain⟨r,hr⟩:=this;rw[hr]at h;cases r with
 |ok d w'=>
   have h1:({a with defers:=d::a.defers}.put o.dst Go.undef).defers=a.defers:=h;have h2:({a with defers:=d::a.defers}.put o.dst Go.undef).defers=d::a.defers:=by unfold Act.put;split<;>rfl
   rw[h2]at h1;have:=congrArg List.length h1;simp at this
 |halt x w'=>cases x<;>exact h
def lj{c:Code}(h:c.wpIn (Fw ro) n P (Exit.noGoto Q) a w):(Code.scope c).wpIn (Fw ro) n P Q a w:=by
 intro b k cs Zb hb hr;obtain⟨e,a₁,w₁,hq,IY⟩:=h b (.inScope c::k) cs Zb hb hr;have s1:step P (lone (b.atR a (.code (.scope c)::k)) cs w)=.next (lone (b.atR a (.code c::.inScope c::k)) cs w):=step_lone_go (by simp[stepG,stepG.exec,Frame.atR]);have s2:∀a w,step P (lone (b.atR a (.inScope c::k)) cs w)=.next (lone (b.atR a k) cs w):=fun a w=>step_lone_go (by simp[stepG,stepG.exec,Frame.atR]);have S1:StepsIn (Machine.fenced P (Fw ro)) P (lone (b.atR a (.code (.scope c)::k)) cs w) (lone (b.atR a (.code c::.inScope c::k)) cs w):=nF.2 (.one s1);cases e with
 |normal=>exact⟨.normal,a₁,w₁,hq,S1.trans (StepsIn.trans IY (nF.2 (.one (s2 _ _))))⟩
 |exit id=>
   have hx:exitTo id (.inScope c::k)=exitTo id k:=by simp[exitTo]
   exact⟨.exit id,a₁,w₁,hq,fun k' hk=>S1.trans (IY.1 k' (by rw[hx];exact hk)),fun AM hk=>let⟨k₁,h1,h2⟩:=IY.2 AM (by rw[hx];exact hk);⟨k₁,h1,S1.trans h2⟩⟩
 |goto l=>exact hq.elim
 |ret=>exact⟨_,a₁,w₁,hq,.of_steps S1 IY⟩
 |panic ch=>exact⟨_,a₁,w₁,hq,.of_steps S1 IY⟩
 |outgrown=>exact⟨_,a₁,w₁,hq,.of_steps S1 IY⟩
def adg{K:Act->World->Prop}{Q':Exit->Act->World->Prop}(h:∀e a w,Q e a w->Q' e a w)(hh:o.wpIn (Fw ro) n P a w K Q):o.wpIn (Fw ro) n P a w K Q':=by
 unfold Oper.wpIn at *;refine⟨hh.1,?_⟩;have hh:=hh.2;generalize (o.semAt (Fw ro).round a.eval).run P w=r at *;cases r with
 |ok x w'=>
   cases x<;>simp only[Oper.uponIn]at hh ⊢ <;>
    first
     |exact hh
     |exact⟨hh.1,CallsIn.mono hh.2 (fun e Mk he=>by cases e<;>first|exact he|exact h _ _ _ he|exact(let⟨a,w,q⟩:=he;⟨a,w,h _ _ _ q⟩))⟩
     |exact⟨hh.1,RoundIn.mono hh.2 (fun e Mk he=>by cases e<;>first|exact he|exact h _ _ _ he|exact(let⟨a,w,q⟩:=he;⟨a,w,h _ _ _ q⟩))⟩
 |halt x w'=>cases x<;>simp only[Oper.uponIn]at hh ⊢ <;>first|exact h _ _ _ hh|exact hh
def vH{K:Act->World->Prop}{Q':Exit->Act->World->Prop}(h:∀e a w,Q e a w->Q' e a w)(hh:wpOpIn (Fw ro) n P ops Q i K a w):wpOpIn (Fw ro) n P ops Q' i K a w:=by
 unfold wpOpIn at *;split
 next ho=>simpa[ho]using hh
 .rename_i o ho;simp only[ho]at hh;split
  next hw=>simp only[hw,aW]at hh;exact adg h hh
  next hw=>simp only[hw]at hh;exact hh
def lU{Q':Exit->Act->World->Prop}(h:∀e a w,Q e a w->Q' e a w):∀(fuel:Nat) (Aa:Array Bool) (a:Act) (w:World),wpAnyIn (Fw ro) n P .any ops Q fuel Aa a w->wpAnyIn (Fw ro) n P .any ops Q' fuel Aa a w
 |0,Aa,a,w,hh=>⟨hh.1,h _ _ _ hh.2⟩
 |fuel+1,Aa,a,w,hh=>⟨fun hr=>h _ _ _ (hh.1 hr),fun i hi=>vH h (wpOpIn_mono (fun a w q=>lU h fuel _ a w q) (hh.2 i hi))⟩
def lS(EA:∀c,o.op≠.defer c)(hi:ops[i]? =ZA o)(hy:Yields P ops o v a){K:Act->World->Prop}(h:K (a.put o.dst v) w):wpOpIn (Fw ro) n P ops Q i K a w:=by
 unfold Go.wpOpIn;simp only[hi];rcases hy with⟨hw,hv⟩|⟨hw,rfl⟩
 .simp only[hw,aW,Oper.wpIn,Oper.semAt_eq _ _ _ EA,hv w,Oper.uponIn];exact⟨fun _ _=>trivial,h⟩
 .simp only[hw,Bool.false_eq_true,dz];exact⟨fun _ _=>trivial,h⟩
def adf{j:Nat}{oi oj:Oper}(hj:ops[j]? =ZA oj)(hap:oi.apart ops oj=ZB)
  (O1:∀cs b,oi.op≠.select cs b) (hsj:∀cs b,oj.op≠.select cs b) (Qh:∀c,oj.op≠.defer c)
  (hQ:∀c a w,Q (.panic c) (a.put oi.dst v) w->Q (.panic c) a w) {K:Act->World->Prop}  
  (hy:Yields P ops oi v a) (h:wpOpIn (Fw ro) n P ops Q j K (a.put oi.dst v) w):
  wpOpIn (Fw ro) n P ops Q j (fun a' w'=>Yields P ops oi v a'/\K (a'.put oi.dst v) w') a w:=by
 obtain⟨h1,h2,h3⟩:=Oper.apart_spec hap;have Ii:∀(a:Act),Yields P ops oi v a->∀u,Yields P ops oi v (a.put oj.dst u):=fun a hy u=>hy.of_same (execOp_put oi O1 a oj.dst u h3) (wanted_put oi a oj.dst u h3)
 have QU:∀d,Yields P ops oi v {a with defers:=d::a.defers}:=fun d=>hy.of_same rfl rfl;unfold wpOpIn at *;simp only[hj]at *;rw[wanted_put oj a oi.dst v h1]at h;split
 .rename_i hw;simp only[hw,aW]at h;unfold Oper.wpIn at *;refine⟨fun _ _=>trivial,?_⟩;have h:=h.2;rw[Oper.semAt_eq _ _ _ Qh,execOp_put oj hsj a oi.dst v h1]at h;rw[Oper.semAt_eq _ _ _ Qh];generalize (execOp a.eval oj).run P w=r at *;cases r with
  |ok x w'=>
    cases x<;>simp only[Oper.uponIn]at h ⊢
    case value u=>exact⟨Ii a hy u,by rw[<-Act.put_comm a v u h2];exact h⟩
    case skip=>exact⟨Ii a hy _,by rw[<-Act.put_comm a v undef h2];exact h⟩
    case defer d=>refine⟨Ii _ (QU d) _,?_⟩;rw[<-Act.put_comm _ v undef h2,<-Act.put_defers];exact h
    case enter f args=>
     refine⟨h.1,CallsIn.mono h.2 fun e Mk he=> ?_⟩;cases e with
     |returned u=>exact⟨Ii a hy u,by rw[<-Act.put_comm a v u h2];exact he⟩
     |panicked c=>exact hQ _ _ _ he
     |outgrown=>exact he
    case row row args=>exact⟨h.1,RowsIn.mono h.2 fun u Mk he=>⟨Ii a hy u,by rw[<-Act.put_comm a v u h2];exact he⟩⟩
    case round l f tmps assign body=>
     refine⟨h.1,RoundIn.mono h.2 fun e Mk he=> ?_⟩;cases e with
     |returned u=>exact⟨Ii a hy u,by rw[<-Act.put_comm a v u h2];exact he⟩
     |panicked c=>exact hQ _ _ _ he
     |outgrown=>exact he
  |halt x w'=>
    cases x<;>simp only[Oper.uponIn]at h ⊢
    case panic u=>exact hQ _ _ _ h
 next hw=>simp only[hw]at h;exact⟨fun _ _=>trivial,Ii a hy _,by rw[<-Act.put_comm a v undef h2];exact h.2⟩
def tO{oi:Oper}(hi:ops[i]? =ZA oi)(Cu:∀(j:Nat) (o:Oper) cs b,ops[j]? =ZA o->o.op≠.select cs b)(EA:∀(j:Nat) (o:Oper) c,ops[j]? =ZA o->o.op≠.defer c)
  (hQ:∀c a w,Q (.panic c) (a.put oi.dst v) w->Q (.panic c) a w):
  ∀(fuel:Nat) (Aa:Array Bool) (a:Act) (w:World),
   (∀j oj,ops[j]? =ZA oj->j≠i->Aa.getD j ZB=ZC->(∀e∈oj.after,ZX .any e=ZB->e.on≠i)->oi.apart ops oj=ZB)->
   i∈Region.ready .any ops Aa->Yields P ops oi v a->
   wpAnyIn (Fw ro) n P .any ops Q fuel (Aa.setIfInBounds i ZB) (a.put oi.dst v) w->wpAnyIn (Fw ro) n P .any ops Q (fuel+1) Aa a w:=by
 intro fuel
 induction fuel with
 |zero=>
   intro Aa a w _ hr hy H;refine⟨fun h=>(by rw[h]at hr;cases hr),fun j hj=> ?_⟩;by_cases hji:j=i
   .subst hji;exact lS (EA j oi · hi) hi hy H
   .have:=ready_mono hj hji;rw[H.1]at this;cases this
 |succ fuel ih=>
   intro Aa a w LM hr hy H;refine⟨fun h=>(by rw[h]at hr;cases hr),fun j hj=> ?_⟩;by_cases hji:j=i
   .subst hji;exact lS (EA j oi · hi) hi hy H
   .have h1:=H.2 j (ready_mono hj hji);obtain⟨P9,oj,Th,AX⟩:=mem_ready.1 hj;have Nk:∀e∈oj.after,ZX .any e=ZB->e.on≠i:=fun e he hb DF=>by
     have h1:=AX e he hb;have h0:=(mem_ready.1 hr).1;rw[DF]at h1;rcases bn i Aa.size with h'|h'
     .simp[h']at h0 h1;rw[h0]at h1;cases h1
     .simp[Array.getElem?_eq_none h']at h1
    have h2:=adf Th (LM j oj Th hji P9 Nk) (fun cs b=>Cu i oi cs b hi) (fun cs b=>Cu j oj cs b Th) (EA j oj · Th) hQ hy h1;have Na:∀k ok,ops[k]? =ZA ok->k≠i->(Aa.setIfInBounds j ZB).getD k ZB=ZC->
     (∀e∈ok.after,ZX .any e=ZB->e.on≠i)->oi.apart ops ok=ZB:=fun k ok hk IB DU Qj=>by
     refine LM k ok hk IB ?_ Qj;by_cases hjk:j=k
     .subst hjk;exact P9
     .rw[getD_set_ne ZB hjk]at DU;exact DU
    refine wpOpIn_mono (fun a' w' h3=>ih (Aa.setIfInBounds j ZB) a' w' Na (ready_mono hr (Ne.symm hji)) h3.1 ?_) h2;rw[Array.setIfInBounds_comm _ _ hji];exact h3.2
def vy{f:FuncId}{fn:Func}{c:Code}{args:Array Value}{R:Ending->World->Prop}(hf:P.funcs[f]? =ZA fn)(hb:fn.body=ZA c)(h:c.wpIn (Fw ZD) 0 P (bodyPost P fn R) {tmps:=args++Array.replicate (fn.ntmps-args.size) undef,defers:=[]} w):Calls P f args w R:=
 kJ.1 (callsIn_of_wp (F:=Fw ZD) (n:=0) hf hb trivial h)
end
def part(A2:Nat->Bool):Nat->List Rec->Fz->Fz
 |_,[],F=>F
 |i,r::l,F=>part A2 (i+1) l (if A2 i then F.rec' r else F)
def Cb(l:List Rec)(F:Fz):Fz:=l.foldl Fz.rec' F
section
variable {P:Program}{ρ:Env}{n:Nat}{X:List Value}{W0:Wb}{fb:Nat->Option (List C)}{ops:Array Oper}{ro:Option Nat}
def lC(A2:Nat->Bool):∀(l m:List Rec) (i:Nat) (F:Fz),part A2 i (l++m) F=part A2 (i+l.length) m (part A2 i l F)
 |[],m,i,F=>rfl
 |r::l,m,i,F=>by simp only[YN,part,YM];rw[lC A2 l m (i+1)];congr 1;omega
def xm{A2:Nat->Bool}:∀(l:List Rec) (i:Nat) (F:Fz),(∀m,m<l.length->A2 (i+m)=ZB)->part A2 i l F=Cb l F
 |[],_,_,_=>rfl
 |r::l,i,F,h=>by have h0:=h 0 (by simp);simp only[ZP]at h0;simp only[part,h0,aW,Cb,YT];exact xm l (i+1) _ (fun m hm=>by rw[ZU,Nat.add_comm 1 m];exact h (m+1) XN)
def xl{A2:Nat->Bool}:∀(l:List Rec) (i:Nat) (F:Fz),(∀m,m<l.length->A2 (i+m)=ZC)->part A2 i l F=F
 |[],_,_,_=>rfl
 |r::l,i,F,h=>by have h0:=h 0 (by simp);simp only[ZP]at h0;simp only[part,h0];exact xl l (i+1) _ (fun m hm=>by rw[ZU,Nat.add_comm 1 m];exact h (m+1) XN)
def nV{A2 sel':Nat->Bool}:∀(l:List Rec) (i:Nat) (F:Fz),(∀m,m<l.length->A2 (i+m)=sel' (i+m))->part A2 i l F=part sel' i l F
 |[],_,_,_=>rfl
 |r::l,i,F,h=>by have h0:=h 0 (by simp);simp only[ZP]at h0;simp only[part,h0];exact nV l (i+1) _ (fun m hm=>by rw[ZU,Nat.add_comm 1 m];exact h (m+1) XN)
def rH{r:Rec}{A2:Nat->Bool}:∀(l:List Rec) (i:Nat) (F F':Fz),Agree ops r F F'->(∀(m:Nat) x,l[m]? =ZA x->A2 (i+m)=ZC->Indep ops x r)->Agree ops r (Cb l F) (part A2 i l F')
 |[],_,_,_,h,_=>h
 |x::l,i,F,F',h,hi=>by
   simp only[Cb,YT,part];have tail:∀(m:Nat) y,l[m]? =ZA y->A2 (i+1+m)=ZC->Indep ops y r:=fun m y hm hs=>hi (m+1) y XN XV;by_cases hs:A2 i=ZB
   .simp only[hs,aW];exact rH l (i+1) _ _ h.congr tail
   .simp only[hs];exact rH l (i+1) _ _ (((Agree.step (hi 0 x rfl (by simpa using hs)) F).symm).trans h) tail
def ov{r:Rec}{A2:Nat->Bool}:∀(l:List Rec) (i:Nat) (F F':Fz),Agree ops r F F'->(∀(m:Nat) x,l[m]? =ZA x->A2 (i+m)=ZB->Indep ops x r)->Agree ops r F (part A2 i l F')
 |[],_,_,_,h,_=>h
 |x::l,i,F,F',h,hi=>by
   simp only[part];have tail:∀(m:Nat) y,l[m]? =ZA y->A2 (i+1+m)=ZB->Indep ops y r:=fun m y hm hs=>hi (m+1) y XN XV;by_cases hs:A2 i=ZB
   .simp only[hs,aW];exact ov l (i+1) _ _ (h.trans (Agree.step (hi 0 x rfl (by simpa using hs)) F')) tail
   .simp only[hs];exact ov l (i+1) _ _ h tail
def uN{r:Rec}{A2:Nat->Bool}:∀(l:List Rec) (i:Nat) (F:Fz),(∀(m:Nat) x,l[m]? =ZA x->A2 (i+m)=ZB->Indep ops x r)->part A2 i l (F.rec' r)=(part A2 i l F).rec' r
 |[],_,_,_=>rfl
 |x::l,i,F,hi=>by
   simp only[part];have tail:∀(m:Nat) y,l[m]? =ZA y->A2 (i+1+m)=ZB->Indep ops y r:=fun m y hm hs=>hi (m+1) y XN XV;by_cases hs:A2 i=ZB
   .simp only[hs,aW];rw[<-abV (hi 0 x rfl (by simpa using hs))];exact uN l (i+1) _ tail
   .simp only[hs];exact uN l (i+1) _ tail
structure RecOk(P:Program)(hw:World->Prop)(ρ:Env)(n:Nat)(base:Nat)(fb:Nat->Option (List C))(ops:Array Oper)(r:Rec)(F:Fz):Prop where
 run:r.want=ZB->∃vw,vw.nid=r.nid/\OpOk P hw ρ base vw r.o r.eff/\Sees n fb vw r.o r.eff F
 skip:r.want=ZC->r.eff={val:=.one .undef}
 guard:match r.o.guard with
  |none=>r.want=ZB
  |some (g,b)=>∃t,(ops[g]?).bind (·.dst)=ZA t/\t<n/\((∃e:E,F.tmp t=.one (.bool e)/\r.want=(e.B ρ==b))\/(F.tmp t=.one .undef/\r.want=ZC))
 dst:∀d,r.o.dst=ZA d->d<n
def RecOk.agree{r:Rec}{F F':Fz}(h:RecOk P W0.hw ρ n W0.heap.size fb ops r F)(ha:Agree ops r F F'):RecOk P W0.hw ρ n W0.heap.size fb ops r F':=by
 refine⟨fun hw=> ?_,h.skip,?_,h.dst⟩
 .obtain⟨vw,hn,h1,h2⟩:=h.run hw;have AG:∀b∈r.rid,F.row b=F'.row b:=fun b hb=>ha.row b (ZW _ hb);refine⟨vw,hn,h1,⟨fun x hx v hv=> ?_,fun p hp c hc=> ?_,fun p hp=> ?_,fun hx=>by rw[hn];exact(ha.nw hx).1 (by rw[<-hn];exact h2.nw hx),fun id E7 q hq=> ?_,?_,h2.fb,h2.one⟩⟩
  .have h3:=h2.ev x hx v hv;cases x with
   |tmp t=>simp only[OQ]at h3 ⊢;rw[<-ha.t t (YZ _ (ab4 hx))];exact h3
   |_=>exact h3
  .rw[<-ha.rd p hp];exact h2.rd p hp c hc
  .obtain⟨c,hc⟩:=h2.wr p hp;have:=ha.wr p hp;rw[hc]at this;exact Option.isSome_iff_exists.1 this.symm
  .have:=h2.rr id E7 q hq;unfold O8 at this ⊢;rw[<-ha.row id (YZ _ E7)];exact this
  .have h3:=h2.re;rw[hn]at h3 ⊢;unfold Rec.rid at AG;revert h3 AG;cases r.eff.re with
   |none=>exact fun _ _=>trivial
   |set id q=>intro AG h3;exact⟨by rw[<-AG id Yd];exact h3.1,h3.2⟩
   |mk rs=>
     intro AG h3 i hi;have mem:∀(rs:List RowOb) (nid i:Nat),i<rs.length->nid+i∈(E3 nid rs).map (·.1):=by
      intro rs
      induction rs with
      |nil=>intro nid i hi;simp at hi
      |cons x rs ih=>
        intro nid i hi;cases i with
        |zero=>simp[E3]
        |succ i=>simp only[E3,YR,ZN];right;rw[show nid+(i+1)=nid+1+i by omega];exact ih (nid+1) i XM
     rw[<-AG _ (mem rs r.nid i hi)];exact h3 i hi
   |app old q=>intro AG h3;exact⟨by rw[<-AG old Yd];exact h3.1,h3.2.1,by rw[<-AG r.nid Yd];exact h3.2.2.1,h3.2.2.2⟩
   |frz old q0 q=>intro AG h3;exact⟨by rw[<-AG old Yd];exact h3.1,h3.2.1,h3.2.2.1,by rw[<-AG r.nid Yd];exact h3.2.2.2.1,h3.2.2.2.2⟩
   |tset old q0 tab q=>intro AG h3;exact⟨by rw[<-AG old Yd];exact h3.1,h3.2.1,by rw[<-AG tab Yd];exact h3.2.2.1,h3.2.2.2⟩
   |peek q=>intro AG h3;exact⟨h3.1,by rw[<-AG r.nid Yd];exact h3.2⟩
   |view old q0 q=>intro AG h3;exact⟨by rw[<-AG old Yd];exact h3.1,h3.2.1,h3.2.2.1,by rw[<-AG r.nid Yd];exact h3.2.2.2.1,h3.2.2.2.2⟩
 .have hg:=h.guard;cases HE:r.o.guard with
  |none=>rw[HE]at hg;exact hg
  |some p=>obtain⟨g,b⟩:=p;rw[HE]at hg;obtain⟨t,h1,h2,h3⟩:=hg;refine⟨t,h1,h2,?_⟩;have:F.tmp t=F'.tmp t:=ha.t t (ZW _ (by simp[gTs,HE,h1]));rw[<-this];exact h3
def nv{F:Fz}(h:Rel ρ n X W0 fb F j a w){g:Nat}(ht:(ops[g]?).bind (·.dst)=ZA t)(hn:t<n):
  (∀e,F.tmp t=.one (.bool e)->yielded ops a.tmps g=ZA (e.B ρ))/\(F.tmp t=.one .undef->yielded ops a.tmps g=ZD):=by
 obtain⟨v,h1,h2⟩:=h.tmp t hn;constructor
 .intro e he;rw[he]at h2;rcases h2 with h2|h2
  .exact XO
  have:=kq h2;subst this;simp[yielded,ht,h1]
 .intro he;rw[he]at h2;rcases h2 with h2|h2
  .exact XO
  have:v=Go.undef:=(YL h2).symm;subst this;simp[yielded,ht,h1,Go.undef]
def Ut{F:Fz}(h:Rel ρ n X W0 fb F j a w){r:Rec}(hr:RecOk P W0.hw ρ n W0.heap.size fb ops r F)(Eo:r.want=ZB){K:Act->World->Prop}{Q:Exit->Act->World->Prop}(hK:∀j' a' w',Rel ρ n X W0 fb (F.rec' r) j' a' w'->K a' w'):r.o.wp P a w K Q:=by
 obtain⟨vw,hn,h1,h2⟩:=hr.run Eo;exact aqz h h1 h2 hr.dst (by rw[hn];exact hK)
def as7{F:Fz}(h:Rel ρ n X W0 fb F j a w){r:Rec}(hr:RecOk P W0.hw ρ n W0.heap.size fb ops r F)(Eo:r.want=ZB):∀c,r.o.op≠.defer c:=alw (Ut h hr Eo (fun j' a' w' h'=>h'.defers.trans h.defers.symm))
def abT{F:Fz}(h:Rel ρ n X W0 fb F j a w){r:Rec}(hr:RecOk P W0.hw ρ n W0.heap.size fb ops r F):Region.wanted r.o (yielded ops a.tmps)=r.want:=by
 have hg:=hr.guard;unfold Region.wanted;cases HE:r.o.guard with
 |none=>rw[HE]at hg;exact hg.symm
 |some p=>
   obtain⟨g,b⟩:=p;rw[HE]at hg;obtain⟨t,h1,h2,h3⟩:=hg;obtain⟨h4,h5⟩:=nv h h1 h2;rcases h3 with⟨e,h6,h7⟩|⟨h6,h7⟩
   .simp only[h4 e h6,h7];cases e.B ρ<;>cases b<;>rfl
   .simp only[h5 h6,h7];rfl
def mC{F:Fz}(h:Rel ρ n X W0 fb F j a w){r:Rec}(hr:RecOk P W0.hw ρ n W0.heap.size fb ops r F)(hi:ops[i]? =ZA r.o){K:Act->World->Prop}{Q:Exit->Act->World->Prop}(hK:∀j' a' w',Rel ρ n X W0 fb (F.rec' r) j' a' w'->K a' w'):wpOpIn (Fw ro) 0 P ops Q i K a w:=by
 have hw:=abT h hr;unfold wpOpIn;simp only[hi,hw];cases Eo:r.want with
 |true=>exact io (as7 h hr Eo) (Ut h hr Eo hK)
 |false=>have he:=hr.skip Eo;refine⟨fun _ _=>trivial,hK j _ w ?_⟩;unfold Fz.rec' Fz.app;rw[he];exact h.put rfl hr.dst
def sC:∀(post pre:List Rec) (F0:Fz),ops.toList=(pre++post).map (·.o)->(∀(m:Nat) r,post[m]? =ZA r->RecOk P W0.hw ρ n W0.heap.size fb ops r (Cb (pre++post.take m) F0))->
  ∀{Q:Exit->Act->World->Prop} {j:J} {a:Act} {w:World},Rel ρ n X W0 fb (Cb pre F0) j a w->(∀j' a' w',Rel ρ n X W0 fb (Cb (pre++post) F0) j' a' w'->Q .normal a' w')->wpOpsIn (Fw ro) 0 P ops Q (List.range' pre.length post.length) a w
 |[],pre,F0,hl,hr,Q,j,a,w,h,hQ=>by simp only[List.length_nil,List.range'_zero,wpOpsIn];exact hQ j a w Xw
 |r::post,pre,F0,hl,hr,Q,j,a,w,h,hQ=>by
   simp only[YM,List.range'_succ];rw[wpOpsIn_cons];have h0:=hr 0 r rfl;simp only[List.take_zero,List.append_nil]at h0;refine mC h h0 ?_ (fun j' a' w' h'=> ?_)
   .rw[<-lr,hl];simp
   .have:=sC post (pre++[r]) F0 (by rw[hl];simp) (fun m x hm=>by
     have:=hr (m+1) x XN;simpa using this) (Q:=Q) (j:=j') (a:=a') (w:=w') (by simpa[Cb]using h') (fun Ts a'' Mk K2=>hQ Ts a'' Mk (by simpa using K2))
    simpa using this
def iI(ops:Array Oper)(A2:Nat->Bool):Prop:=∀(i:Nat) o,ops[i]? =ZA o->A2 i=ZB->∀e∈o.after,ZX .any e=ZB->A2 e.on=ZB
def adH{L:List Rec}{F0:Fz}(hl:ops.toList=L.map (·.o))(hr:∀(m:Nat) r,L[m]? =ZA r->RecOk P W0.hw ρ n W0.heap.size fb ops r (Cb (L.take m) F0))
  (JQ:∀(i:Nat) o,ops[i]? =ZA o->∀e∈o.after,ZX .any e=ZB->e.on<i)
  (Hl:∀(k i:Nat) x r,k<i->L[k]? =ZA x->L[i]? =ZA r->Indep ops x r\/∀A2,iI ops A2->(∀o,ops[i]? =ZA o->∀e∈o.after,ZX .any e=ZB->A2 e.on=ZB)->A2 k=ZB) {Q:Exit->Act->World->Prop}
  (hQ:∀j' a' w',Rel ρ n X W0 fb (Cb L F0) j' a' w'->Q .normal a' w'):
  ∀(fuel:Nat) (Aa:Array Bool) (j:J) (a:Act) (w:World),Aa.size=L.length->iI ops (fun i=>Aa.getD i ZC)->(List.range L.length).countP (fun i=>!Aa.getD i ZC)<=fuel->
   Rel ρ n X W0 fb (part (fun i=>Aa.getD i ZC) 0 L F0) j a w->wpAnyIn (Fw ro) 0 P .any ops Q fuel Aa a w:=by
 have BC:ops.size=L.length:=by rw[<-Array.length_toList,hl,List.length_map]
 have Ab:∀(i:Nat) r,L[i]? =ZA r->ops[i]? =ZA r.o:=fun i r hi=>by rw[<-lr,hl,iO,hi];rfl
 have gd:∀(Aa:Array Bool) (i:Nat),Aa.size=L.length->i<L.length->Aa.getD i ZB=Aa.getD i ZC:=fun Aa i hs hi=>by rw[iz,iz,Array.getElem?_eq_getElem Fn];rfl
 have done:∀(Aa:Array Bool) (j:J) (a:Act) (w:World),Aa.size=L.length->iI ops (fun i=>Aa.getD i ZC)->Rel ρ n X W0 fb (part (fun i=>Aa.getD i ZC) 0 L F0) j a w->Region.ready .any ops Aa=[]->Q .normal a w:=by
  intro Aa j a w hs hc h Ei;refine hQ j a w ?_;have AX:∀i,i<L.length->Aa.getD i ZC=ZB:=by
   intro i
   induction i using Nat.strongRecOn with
   |_ i ih=>
     intro hi;cases hb:Aa.getD i ZC with
     |true=>rfl
     |false=>
       exfalso;have:i∈Region.ready .any ops Aa:=by
        unfold Region.ready;simp only[List.mem_filter,List.mem_range,ne,ZL];obtain⟨r,AM⟩:∃r,L[i]? =ZA r:=⟨L[i],Az hi⟩
        have ho:=Ab i r AM;refine⟨by omega,?_,?_⟩
        .rw[gd Aa i hs hi];exact hb
        .rw[ho];simp only[ZK,Option.getD_some,Array.all_eq_true_iff_forall_mem,eu,ZL];intro e he;cases Xl:ZX .any e with
         |false=>exact .inl rfl
         |true=>have Ap:=JQ i _ ho e he Xl;exact .inr (ih e.on Ap Fn)
       rw[Ei]at this;cases this
  rw[xm L 0 F0 (fun m hm=>by simpa using AX m hm)]at h;exact h
 intro fuel
 induction fuel with
 |zero=>
   intro Aa j a w hs hc hf h;have AX:∀i,i<L.length->Aa.getD i ZC=ZB:=fun i hi=>by have:=List.countP_eq_zero.1 (Nat.le_zero.1 hf) i (List.mem_range.2 hi);simpa using this
   have Ei:Region.ready .any ops Aa=[]:=by
    unfold Region.ready;rw[List.filter_eq_nil_iff];intro i hi;have A6:i<L.length:=by rw[List.mem_range]at hi;omega
    rw[gd Aa i hs A6,AX i A6];simp
   exact⟨Ei,done Aa j a w hs hc h Ei⟩
 |succ fuel ih=>
   intro Aa j a w hs hc hf h;refine⟨fun Ei=>done Aa j a w hs hc h Ei,fun i hi=> ?_⟩;obtain⟨DU,o,ho,AX⟩:=mem_ready.1 hi;have A6:i<L.length:=by
    rw[<-BC];rcases bn i ops.size with h1|h1
    .exact h1
    .rw[Array.getElem?_eq_none h1]at ho;cases ho
   obtain⟨r,AM⟩:∃r,L[i]? =ZA r:=⟨L[i],Az A6⟩
   have Tg:=Ab i r AM;rw[ho]at Tg;cases Tg;have Nu:Aa.getD i ZC=ZC:=by rw[<-gd Aa i hs A6];exact DU
   have D0:L=L.take i++r::L.drop (i+1):=by rw[Az A6]at AM;cases AM;simp
   have AE:(L.take i).length=i:=Xz;have CF:∀(m:Nat) x,(L.take i)[m]? =ZA x->Aa.getD (0+m) ZC=ZC->Indep ops x r:=by
    intro m x hm Cu;have OW:m<i:=by
     rcases bn m i with h1|h1
     .exact h1
     .rw[bN Fn]at hm;cases hm
    rw[List.getElem?_take_of_lt OW]at hm;rcases Hl m i x r OW hm AM with h1|h1
    .exact h1
    .exfalso;have:=h1 (fun i=>Aa.getD i ZC) hc (fun o' GE e he hb=>by
      rw[ho]at GE;cases GE;exact AX e he hb)
     simp only[be]at Cu;rw[Cu]at this;cases this
   have Hm:∀(m:Nat) x,(L.drop (i+1))[m]? =ZA x->Aa.getD (i+1+m) ZC=ZB->Indep ops x r:=by
    intro m x hm Cu;rw[List.getElem?_drop]at hm;rcases Hl i (i+1+m) r x Fn AM hm with h1|h1
    .exact h1.symm
    .exfalso;have:=h1 (fun i=>Aa.getD i ZC) hc (fun o' GE e he hb=>hc (i+1+m) o' GE Cu e he hb);rw[Nu]at this;cases this
   have hF:part (fun i=>Aa.getD i ZC) 0 L F0=part (fun i=>Aa.getD i ZC) (i+1) (L.drop (i+1)) (part (fun i=>Aa.getD i ZC) 0 (L.take i) F0):=by
    conv=>lhs;rw[D0]
    rw[lC,AE,be];simp only[part,Nu];rfl
   have Ef:Agree ops r (Cb (L.take i) F0) (part (fun i=>Aa.getD i ZC) 0 L F0):=by rw[hF];exact ov _ _ _ _ (rH _ 0 _ _ (Agree.refl ops r F0) CF) Hm
   have Ai:=(hr i r AM).agree Ef;refine mC h Ai ho (fun j' a' w' h'=> ?_);have Ns:(Aa.setIfInBounds i ZB).size=L.length:=by simp[hs]
   have Cs:∀k,(Aa.setIfInBounds i ZB).getD k ZC=if k=i then ZB else Aa.getD k ZC:=by
    intro k;rw[iz,Array.getElem?_setIfInBounds];by_cases hk:k=i
    .subst hk;simp[hs,A6]
    .have GX:¬i=k:=fun e=>hk e.symm;simp[hk,GX,iz]
   refine ih _ j' a' w' Ns ?_ ?_ ?_
   .intro k o' hk Cu e he hb;simp only[Cs]at Cu ⊢;by_cases IB:k=i
    .subst IB;rw[ho]at hk;cases hk;split
     .rfl
     .exact AX e he hb
    .rw[aa IB]at Cu;split
     .rfl
     .exact hc k o' hk Cu e he hb
   .have:(List.range L.length).countP (fun k=>!(Aa.setIfInBounds i ZB).getD k ZC)<(List.range L.length).countP (fun k=>!Aa.getD k ZC):=by
     have e1:(List.range L.length)=List.range i++i::(List.range' (i+1) (L.length-(i+1))):=by
      have h1:i::List.range' (i+1) (L.length-(i+1))=List.range' i (L.length-i):=by rw[show L.length-i=(L.length-(i+1))+1 by omega,List.range'_succ]
      have h2:=List.range'_append_1 (s:=0) (m:=i) (n:=L.length-i);rw[be,show i+(L.length-i)=L.length by omega]at h2;rw[h1,List.range_eq_range',List.range_eq_range',h2]
     rw[e1,List.countP_append,List.countP_append,List.countP_cons,List.countP_cons];have c1:∀l:List Nat,i ∉ l->l.countP (fun k=>!(Aa.setIfInBounds i ZB).getD k ZC)=l.countP (fun k=>!Aa.getD k ZC):=by intro l B0;apply List.countP_congr;intro k hk;have:k≠i:=fun e=>B0 (e▸hk);simp only[Cs,this,dz]
     rw[c1 _ (by simp),c1 _ (by rw[List.mem_range'_1];omega)];simp[Cs,Nu]
    omega
   .have:part (fun k=>(Aa.setIfInBounds i ZB).getD k ZC) 0 L F0=(part (fun i=>Aa.getD i ZC) 0 L F0).rec' r:=by
     rw[hF]
     conv=>lhs;rw[D0]
     rw[lC,AE,be];simp only[part,Cs,aW];rw[nV (sel':=fun i=>Aa.getD i ZC) (L.take i) 0 F0 (fun m hm=>by
      have:m≠i:=by rw[AE]at hm;omega
      simp[this])]
     rw[nV (sel':=fun i=>Aa.getD i ZC) (L.drop (i+1)) (i+1) _ (fun m hm=>by
      have:¬i+1+m=i:=Fn;simp[this])]
     exact uN _ _ _ Hm
    rw[this];exact h'
end
section
variable {P:Program}
def Mz(P:Program)(o:Oper)(a:Act):Prop:=∃v,∀w,(execOp a.eval o).run P w=.ok (.value v) w
def sf(h:o.op=.move x\/o.op=.assign x)(a:Act):Mz P o a:=⟨a.eval x,fun w=>by rcases h with h|h<;>simp[execOp,h]⟩
def yP(hv:∀ad,v≠.pointer (ZA ad))(w:World):∃x w',(Instr.sureAddr v).run P w=.halt x w':=by
 cases v with
 |pointer p=>
   cases p with
   |some ad=>exact ak rfl (hv ad)
   |none=>exact⟨_,_,rfl⟩
 |_=>exact⟨_,_,rfl⟩
def ad3{s f:Nat}(hv:∀ad,v≠.pointer (ZA ad))(w:World):∃x w',(Instr.fieldAt s v f).run P w=.halt x w':=by
 unfold Instr.fieldAt;simp only[ZH];cases h:(underlying s).run P w with
 |halt x w1=>exact⟨x,w1,rfl⟩
 |ok d w1=>
   simp only[Result.andThen_ok];split
   .split
    .simp only[ZH];obtain⟨x,w2,h2⟩:=yP hv w1;rw[h2];exact⟨x,w2,rfl⟩
    .exact⟨_,_,rfl⟩
   .exact⟨_,_,rfl⟩
def yS{s:Nat}{f:Nat}(h:o.op=.fieldAddr s x f){i:TI}(ht:TIok P s i){off ft:Nat}(hf:i.fields[f]? =ZA (off,ft)){K:Act->World->Prop}(hw:o.wp P a w K fun _ _ _=>False):Mz P o a:=by
 by_cases hx:∃ad,a.eval x=.pointer (ZA ad)
 .obtain⟨ad,hx⟩:=hx;exact⟨.pointer (ZA (ad.add off)),fun w=>by simp[execOp,h,hx,ZH,ht.fieldAt f off ft hf w ad]⟩
 .exfalso;obtain⟨y,w',h2⟩:=ad3 (P:=P) (s:=s) (f:=f) (v:=a.eval x) (fun ad e=>hx ⟨ad,e⟩) w;unfold Oper.wp at hw;simp only[execOp,h,ZH,h2]at hw;cases y<;>exact hw
def Alike(P:Program)(s:Sem α):Prop:=(∃v,∀w,s.run P w=.ok v w)\/∀w,∃x w',s.run P w=.halt x w'
def Alike.pure(a:α):Alike P (Pure.pure a:Sem α):=.inl ⟨a,fun _=>rfl⟩
def Alike.stuck(m:String):Alike P (Go.stuck m:Sem α):=.inr fun w=>⟨_,_,rfl⟩
def Alike.unsup(u:Unsupported):Alike P (Go.unsupported u:Sem α):=.inr fun w=>⟨_,_,rfl⟩
def Alike.bind{β:Type}{s:Sem α}{f:α->Sem β}(h:Alike P s)(hf:∀v,Alike P (f v)):Alike P (s >>= f):=by
 rcases h with⟨v,h⟩|h
 .rcases hf v with⟨u,h2⟩|h2
  .exact .inl ⟨u,fun w=>by rw[ZH,h];exact h2 w⟩
  .exact .inr fun w=>by rw[ZH,h];exact h2 w
 .refine .inr fun w=> ?_;obtain⟨x,w',h1⟩:=h w;exact⟨x,w',by rw[ZH,h1];rfl⟩
def Alike.info(t:TypeId):Alike P (typeInfo t):=by
 cases h:P.info? t with
 |some i=>exact .inl ⟨i,fun w=>by simp[typeInfo,h]⟩
 |none=>exact .inr fun w=>⟨.stuck "no such type",w,by simp[typeInfo,h]⟩
def Alike.und(t:TypeId):Alike P (underlying t):=by
 cases h:P.underlying t with
 |some i=>exact .inl ⟨i,fun w=>by simp[underlying,h]⟩
 |none=>exact .inr fun w=>⟨.stuck "no such type",w,by simp[underlying,h]⟩
def Alike.size(t:TypeId):Alike P (sizeOf t):=(Alike.info t).bind fun _=>.pure _
def Alike.agg(t:TypeId):Alike P (isAgg t):=(Alike.und t).bind fun d=>by split<;>exact .pure _
def Alike.int(v:Value):Alike P (asIntOf v):=by
 unfold asIntOf;split
 .exact .pure _
 .exact .unsup _
 .exact .stuck _
def Alike.addr(v:Value):Alike P (Instr.sureAddr v):=by
 unfold Instr.sureAddr;split
 .exact .pure _
 .exact .stuck _
def lF(w:World):∃x w',(runtimePanic .nilDeref:Sem α).run P w=.halt x w':=⟨_,_,rfl⟩
def tA(x y:Int)(b:Bool)(c:BoundsCode)(w:World):∃h w',(runtimePanic (.bounds x y b c):Sem α).run P w=.halt h w':=⟨_,_,rfl⟩
def ajv(k:IntKind)(x y:Int)(c:BoundsCode)(w:World):∃h w',(boundsPanic k x y c:Sem α).run P w=.halt h w':=by
 unfold boundsPanic;dsimp only;split
 .rw[ZH];cases hq:(Functor.map (· ==1) (choose (.extern "runtime.boundsError.signed" 2))).run P w with
  |ok b w1=>exact tA _ _ b c w1
  |halt h w1=>exact⟨h,w1,rfl⟩
 .rw[ZH];exact tA _ _ _ c w
def Alike.bounds(k:IntKind)(x y:Int)(c:BoundsCode):Alike P (boundsPanic k x y c:Sem α):=.inr (ajv k x y c)
def Alike.part(t:TypeId)(cs:Array Value)(off:Nat):Alike P (Go.part t cs off):=by
 unfold Go.part;refine(Alike.agg t).bind fun b=> ?_;split
 .exact(Alike.size t).bind fun _=>.pure _
 .split
  .exact .pure _
  .exact .stuck _
def Alike.blind:∀(l:List FieldStep) (t:TypeId) (x:Option Value),Alike P (followBlind l t x)
 |[],t,x=>.pure _
 |s::rest,t,x=>by
   unfold followBlind;refine(Alike.und _).bind fun d=> ?_;split
   .split
    .split
     .exact .pure _
     .exact Alike.blind rest _ _
     .exact .stuck _
     .exact .pure _
     .exact(Alike.part _ _ _).bind fun _=>Alike.blind rest _ _
     .exact .stuck _
     .exact Alike.blind rest _ _
    .exact .stuck _
   .exact .stuck _
def Alike.nil:∀(n:Nat) (t:TypeId) (v:Value) (name:String),Alike P (nilAhead n t v name)
 |0,t,v,name=>.pure _
 |n+1,t,v,name=>by
   unfold nilAhead;refine(Alike.info _).bind fun i=> ?_;split
   .refine(Alike.blind _ _ _).bind fun r=> ?_;split
    .exact .pure _
    .split
     .exact Alike.nil n _ _ _
     .exact .pure _
     .exact .stuck _
     .exact .pure _
     .exact .pure _
     .refine(Alike.und _).bind fun d=> ?_;split<;>exact .pure _
   .exact .stuck _
def Alike.index(t:TypeId)(x y:Value):Alike P (Instr.indexAt t x y):=by
 unfold Instr.indexAt;refine(Alike.int y).bind fun p=> ?_;refine(Alike.und t).bind fun d=> ?_;dsimp only;split
 .refine(Alike.addr _).bind fun a=>(Alike.pure _).bind fun q=> ?_;obtain⟨b,l,e⟩:=q;refine(Alike.und t).bind fun d=> ?_;dsimp only;split
  .split
   .exact X4
   .exact XL
  .exact Yx
 .refine(Alike.pure _).bind fun q=> ?_;obtain⟨b,l,e⟩:=q;refine(Alike.und t).bind fun d=> ?_;dsimp only;split
  .split
   .exact X4
   .exact XL
  .exact Yx
 .refine(Alike.stuck _).bind fun q=> ?_;obtain⟨b,l,e⟩:=q;refine(Alike.und t).bind fun d=> ?_;dsimp only;split
  .split
   .exact X4
   .exact XL
  .exact Yx
def Alike.bound(x:Value)(y:Nat)(c:BoundsCode):Alike P (Instr.sliceBound x y c):=by
 unfold Instr.sliceBound;refine(Alike.int x).bind fun p=> ?_;dsimp only;split
 .exact .pure _
 .exact Yx
def Alike.bounds3(b:Bool)(n c:Nat)(l h m:Option Value):Alike P (Instr.sliceBounds b n c l h m):=by
 unfold Instr.sliceBounds;cases m<;>cases h<;>cases l<;>dsimp only<;>
  (repeat (first|exact .pure _|refine Alike.bind (.pure _) fun _=> ?_|refine Alike.bind (.bound _ _ _) fun _=> ?_|refine Alike.bind (.stuck _) fun _=> ?_))
def Alike.asAddr(v:Value):Alike P (Go.asAddr v):=by
 unfold Go.asAddr;split
 .exact .pure _
 .exact .inr fun w=>lF w
 .exact .stuck _
def Alike.slice0(t:TypeId)(x:Value)(l h m:Option Value):Alike P (Instr.slice t x l h m):=by
 unfold Instr.slice;refine(Alike.und t).bind fun d=> ?_;split
 .dsimp only;split
  .exact(Alike.stuck _).bind fun _=>(Alike.bounds3 _ _ _ _ _ _).bind fun _=>.pure _
  .exact(Alike.bounds3 _ _ _ _ _ _).bind fun _=>.pure _
 .exact(Alike.bounds3 _ _ _ _ _ _).bind fun _=>(Alike.size _).bind fun _=>.pure _
 .refine(Alike.asAddr _).bind fun a=>(Alike.und _).bind fun d=> ?_;split
  .exact(Alike.bounds3 _ _ _ _ _ _).bind fun _=>(Alike.size _).bind fun _=>.pure _
  .exact .stuck _
 .exact .stuck _
def Alike.slice(t:TypeId)(x:Value)(l h m:Option Value):Alike P (Instr.sliceAt t x l h m):=by
 unfold Instr.sliceAt;refine(Alike.und t).bind fun d=> ?_;split
 .exact(Alike.addr _).bind fun _=>(Alike.bounds3 _ _ _ _ _ _).bind fun _=>(Alike.size _).bind fun _=>.pure _
 .exact .slice0 _ _ _ _ _
def lx(h:Alike P (execOp a.eval o))(hv:∀v w w',(execOp a.eval o).run P w=.ok v w'->∃u,v=.value u){K:Act->World->Prop}(hw:o.wp P a w K fun _ _ _=>False):Mz P o a:=by
 rcases h with⟨v,h⟩|h
 .obtain⟨u,rfl⟩:=hv v w w (h w);exact⟨u,h⟩
 .exfalso;obtain⟨x,w',h2⟩:=h w;unfold Oper.wp at hw;rw[h2]at hw;cases x<;>exact hw
def yR{y:Operand}(h:o.op=.indexAddr t x y){K:Act->World->Prop}(hw:o.wp P a w K fun _ _ _=>False):Mz P o a:=by
 refine lx ?_ (fun v w w' hv=> ?_) hw
 .simp only[execOp,h];exact(Alike.index _ _ _).bind fun _=>.pure _
 .simp only[execOp,h,ZH]at hv;cases hq:(Instr.indexAt t (a.eval x) (a.eval y)).run P w with
  |ok u w1=>rw[hq]at hv;cases hv;exact⟨u,rfl⟩
  |halt u w1=>rw[hq]at hv;cases hv
def yQ{l h' m:Option Operand}(h:o.op=.slice t x l h' m){K:Act->World->Prop}(hw:o.wp P a w K fun _ _ _=>False):Mz P o a:=by
 refine lx ?_ (fun v w w' hv=> ?_) hw
 .simp only[execOp,h];exact(Alike.slice _ _ _ _ _).bind fun _=>.pure _
 .simp only[execOp,h,ZH]at hv;revert hv;generalize (Instr.sliceAt _ _ _ _ _).run P w=r;intro hv;cases r with
  |ok u w1=>cases hv;exact⟨u,rfl⟩
  |halt u w1=>cases hv
def afC(h:o.op=.nilCheck x){K:Act->World->Prop}(hw:o.wp P a w K fun _ _ _=>False):Mz P o a:=by
 have nd:Alike P (runtimePanic .nilDeref:Sem Next):=.inr fun w=>lF w;refine lx ?_ (fun v w w' hv=> ?_) hw
 .simp only[execOp,h];split
  .exact nd
  .exact nd
  .exact nd
  .split
   .exact nd
   .refine Alike.bind (.inl ⟨P,fun _=>rfl⟩) fun p=> ?_;refine(Alike.nil _ _ _ _).bind fun r=> ?_;split
    .exact Alike.bind (.unsup _) fun _=>.pure _
    .exact .pure _
   .exact .pure _
  .exact .pure _
 .have no:∀{w1:World},(runtimePanic .nilDeref:Sem Next).run P w1=.ok v w'->False:=fun {w1} h=>by
   obtain⟨x,w2,e⟩:=lF (P:=P) (α:=Next) w1;rw[e]at h;cases h
  simp only[execOp,h]at hv;split at hv
  .exact(no hv).elim
  .exact(no hv).elim
  .exact(no hv).elim
  .split at hv
   .exact(no hv).elim
   .simp only[ZH,run_program,Result.andThen_ok]at hv;revert hv;generalize (nilAhead _ _ _ _).run P w=r;intro hv;cases r with
    |halt x w1=>cases hv
    |ok b w1=>
      simp only[Result.andThen_ok]at hv;split at hv
      .cases hv
      .cases hv;exact⟨_,rfl⟩
   .cases hv;exact⟨_,rfl⟩
  .cases hv;exact⟨_,rfl⟩
end
def dF(A2:Nat->Bool):List (Nat×Rec)->Fz->Fz
 |[],F=>F
 |p::l,F=>dF A2 l (if A2 p.1 then F.rec' p.2 else F)
def rR(l:List (Nat×Rec))(F:Fz):Fz:=l.foldl (fun F p=>F.rec' p.2) F
def MJ(ops:Array Oper)(l:Array Bool):Nat:=(List.range ops.size).countP fun i=>!l.getD i ZC
def UJ(ops:Array Oper)(k i:Nat):Prop:=∀A2,iI ops A2->(∀o,ops[i]? =ZA o->∀e∈o.after,ZX .any e=ZB->A2 e.on=ZB)->A2 k=ZB
section
variable {P:Program}{ρ:Env}{n:Nat}{X:List Value}{W0:Wb}{fb:Nat->Option (List C)}{ops:Array Oper}{ro:Option Nat}
def jR(A2:Nat->Bool):∀(l m:List (Nat×Rec)) (F:Fz),dF A2 (l++m) F=dF A2 m (dF A2 l F)
 |[],m,F=>rfl
 |p::l,m,F=>by simp only[YN,dF];exact jR A2 l m _
def nW{A2:Nat->Bool}:∀(l:List (Nat×Rec)) (F:Fz),(∀p∈l,A2 p.1=ZB)->dF A2 l F=rR l F
 |[],_,_=>rfl
 |p::l,F,h=>by simp only[dF,h p bG,aW,rR,YT];exact nW l _ (fun q hq=>h q (cm _ hq))
def sD{A2:Nat->Bool}:∀(l:List (Nat×Rec)) (F:Fz),(∀p∈l,A2 p.1=ZC)->dF A2 l F=F
 |[],_,_=>rfl
 |p::l,F,h=>by simp only[dF,h p bG];exact sD l _ (fun q hq=>h q (cm _ hq))
def lD{A2 sel':Nat->Bool}:∀(l:List (Nat×Rec)) (F:Fz),(∀p∈l,A2 p.1=sel' p.1)->dF A2 l F=dF sel' l F
 |[],_,_=>rfl
 |p::l,F,h=>by simp only[dF,h p bG];exact lD l _ (fun q hq=>h q (cm _ hq))
def ow{r:Rec}{A2:Nat->Bool}:∀(l:List (Nat×Rec)) (F F':Fz),Agree ops r F F'->(∀p∈l,A2 p.1=ZC->Indep ops p.2 r)->Agree ops r (rR l F) (dF A2 l F')
 |[],_,_,h,_=>h
 |x::l,F,F',h,hi=>by
   simp only[rR,YT,dF];have tail:∀p∈l,A2 p.1=ZC->Indep ops p.2 r:=fun p hp=>hi p (cm _ hp);by_cases hs:A2 x.1=ZB
   .simp only[hs,aW];exact ow l _ _ h.congr tail
   .simp only[hs];exact ow l _ _ (((Agree.step (hi x bG (by simpa using hs)) F).symm).trans h) tail
def lQ{r:Rec}{A2:Nat->Bool}:∀(l:List (Nat×Rec)) (F F':Fz),Agree ops r F F'->(∀p∈l,A2 p.1=ZB->Indep ops p.2 r)->Agree ops r F (dF A2 l F')
 |[],_,_,h,_=>h
 |x::l,F,F',h,hi=>by
   simp only[dF];have tail:∀p∈l,A2 p.1=ZB->Indep ops p.2 r:=fun p hp=>hi p (cm _ hp);by_cases hs:A2 x.1=ZB
   .simp only[hs,aW];exact lQ l _ _ (h.trans (Agree.step (hi x bG hs) F')) tail
   .simp only[hs];exact lQ l _ _ h tail
def qF{r:Rec}{A2:Nat->Bool}:∀(l:List (Nat×Rec)) (F:Fz),(∀p∈l,A2 p.1=ZB->Indep ops p.2 r)->dF A2 l (F.rec' r)=(dF A2 l F).rec' r
 |[],_,_=>rfl
 |x::l,F,hi=>by
   simp only[dF];have tail:∀p∈l,A2 p.1=ZB->Indep ops p.2 r:=fun p hp=>hi p (cm _ hp);by_cases hs:A2 x.1=ZB
   .simp only[hs,aW];rw[<-abV (hi x bG hs)];exact qF l _ tail
   .simp only[hs];exact qF l _ tail
structure Float(P:Program)(ops:Array Oper)(A2:Nat->Bool)(i:Nat)(o:Oper):Prop where
 still:∀a w K,o.wp P a w K (fun _ _ _=>False)->Mz P o a
 guard:o.guard=ZD
 nosel:Region.noSelect ops=ZB
 free:∀(k:Nat) ok,ops[k]? =ZA ok->k≠i->A2 k=ZC->(∀e∈ok.after,ZX .any e=ZB->e.on≠i)->o.apart ops ok=ZB
def Su(base:Nat->Bool)(L:List (Nat×Rec))(i:Nat)(k:Nat):Bool:=base k||L.any fun q=>Nat.beq q.1 k&&Nat.blt k i
def vv{Aa:Array Bool}(hs:Aa.size=ops.size)(hi:i<ops.size)(DU:Aa.getD i ZC=ZC):MJ ops (Aa.setIfInBounds i ZB)<MJ ops Aa:=by
 have Cs:∀k,(Aa.setIfInBounds i ZB).getD k ZC=if k=i then ZB else Aa.getD k ZC:=by
  intro k;rw[iz,Array.getElem?_setIfInBounds];by_cases hk:k=i
  .subst hk;simp[hs,hi]
  .have GX:¬i=k:=fun e=>hk e.symm;simp[hk,GX,iz]
 unfold MJ;have e1:(List.range ops.size)=List.range i++i::(List.range' (i+1) (ops.size-(i+1))):=by
  have h1:i::List.range' (i+1) (ops.size-(i+1))=List.range' i (ops.size-i):=by rw[show ops.size-i=(ops.size-(i+1))+1 by omega,List.range'_succ]
  have h2:=List.range'_append_1 (s:=0) (m:=i) (n:=ops.size-i);rw[be,show i+(ops.size-i)=ops.size by omega]at h2;rw[h1,List.range_eq_range',List.range_eq_range',h2]
 rw[e1,List.countP_append,List.countP_append,List.countP_cons,List.countP_cons];have c1:∀l:List Nat,i ∉ l->l.countP (fun k=>!(Aa.setIfInBounds i ZB).getD k ZC)=l.countP (fun k=>!Aa.getD k ZC):=by intro l B0;apply List.countP_congr;intro k hk;have:k≠i:=fun e=>B0 (e▸hk);simp only[Cs,this,dz]
 rw[c1 _ (by simp),c1 _ (by rw[List.mem_range'_1];omega)];simp[Cs,DU]
def tu{Aa:Array Bool}(hs:Aa.size=ops.size)(ho:ops[i]? =ZA o)(hc:iI ops (fun i=>Aa.getD i ZC))(AX:∀e∈o.after,ZX .any e=ZB->Aa.getD e.on ZC=ZB):
  iI ops (fun k=>(Aa.setIfInBounds i ZB).getD k ZC):=by
 have hi:i<ops.size:=(fL.1 ho).1;intro k o' hk Cu e he hb;by_cases IB:k=i
 .subst IB;rw[ho]at hk;cases hk;exact getD_set_true (AX e he hb)
 .dsimp only at Cu;rw[getD_set_ne ZC (Ne.symm IB)]at Cu;exact getD_set_true (hc k o' hk Cu e he hb)
def ap6{L:List (Nat×Rec)}{F0:Fz}{base:Nat->Bool}{Q:Exit->Act->World->Prop}(hQ:∀c a w,¬Q (.panic c) a w)(hdf:∀(j:Nat) (o:Oper) c,ops[j]? =ZA o->o.op≠.defer c)
  (Ab:∀p∈L,ops[p.1]? =ZA p.2.o) (EA:(L.map (·.1)).Nodup)
  (hr:∀(m:Nat) p,L[m]? =ZA p->RecOk P W0.hw ρ n W0.heap.size fb ops p.2 (rR (L.take m) F0))
  (Hl:∀(m q:Nat) x r,m<q->L[m]? =ZA x->L[q]? =ZA r->Indep ops x.2 r.2\/UJ ops x.1 r.1)
  (JQ:∀p∈L,∀e∈p.2.o.after,ZX .any e=ZB->e.on<p.1/\(base e.on=ZB\/∃q∈L,q.1=e.on))
  (hout:∀i,i<ops.size->base i=ZC->(∀p∈L,p.1≠i)->∀p∈L,Float P ops (Su base L p.1) p.1 p.2.o\/UJ ops p.1 i)
  (K6:∀(Aa:Array Bool) (j:J) (a:Act) (w:World),Aa.size=ops.size->iI ops (fun i=>Aa.getD i ZC)->(∀i,Aa.getD i ZC=ZB↔(base i=ZB\/∃p∈L,p.1=i))->
   Rel ρ n X W0 fb (rR L F0) j a w->∀fuel,MJ ops Aa<=fuel->wpAnyIn (Fw ro) 0 P .any ops Q fuel Aa a w):
  ∀(N:Nat) (Aa:Array Bool) (j:J) (a:Act) (w:World),L.countP (fun p=>!Aa.getD p.1 ZC)<=N->Aa.size=ops.size->iI ops (fun i=>Aa.getD i ZC)->
   (∀i,Aa.getD i ZC=ZB->base i=ZB\/∃p∈L,p.1=i)->(∀i,base i=ZB->Aa.getD i ZC=ZB)->
   Rel ρ n X W0 fb (dF (fun i=>Aa.getD i ZC) L F0) j a w->∀fuel,MJ ops Aa<=fuel->wpAnyIn (Fw ro) 0 P .any ops Q fuel Aa a w:=by
 have MB:∀(Aa:Array Bool),(∀p∈L,Aa.getD p.1 ZC=ZB)\/∃p∈L,Aa.getD p.1 ZC=ZC/\∀q∈L,Aa.getD q.1 ZC=ZC->p.1<=q.1:=by
  intro Aa;by_cases h:∃p∈L,Aa.getD p.1 ZC=ZC
  .right;have key:∀(k:Nat),(∃p∈L,Aa.getD p.1 ZC=ZC/\p.1<=k)->∃p∈L,Aa.getD p.1 ZC=ZC/\∀q∈L,Aa.getD q.1 ZC=ZC->p.1<=q.1:=by
    intro k
    induction k using Nat.strongRecOn with
    |_ k ih=>
      rintro ⟨p,hp,hu,hk⟩;by_cases hm:∃q∈L,Aa.getD q.1 ZC=ZC/\q.1<p.1
      .obtain⟨q,hq,hqu,Ap⟩:=hm;exact ih q.1 Fn ⟨q,hq,hqu,YJ _⟩
      .refine⟨p,hp,hu,fun q hq hqu=> ?_⟩;rcases bn q.1 p.1 with h1|h1
       .exact ak ⟨q,hq,hqu,h1⟩ hm
       .exact h1
   obtain⟨p,hp,hu⟩:=h;exact key p.1 ⟨p,hp,hu,YJ _⟩
  .left;intro p hp;cases hb:Aa.getD p.1 ZC with
   |true=>rfl
   |false=>exact ak ⟨p,hp,hb⟩ h
 have idx:∀{p q:Nat×Rec},p∈L->q∈L->p.1=q.1->p=q:=by
  intro p q hp hq e;obtain⟨m,hm⟩:=List.getElem?_of_mem hp;obtain⟨m',Ge⟩:=List.getElem?_of_mem hq;have h1:(L.map (·.1))[m]? =ZA p.1:=by rw[iO,hm];rfl
  have h2:(L.map (·.1))[m']? =ZA p.1:=by rw[iO,Ge,e];rfl
  have:m=m':=(List.getElem?_inj (bX.1 h1).1 EA).1 (h1.trans h2.symm);subst this;rw[hm]at Ge;cases Ge;rfl
 intro N
 induction N with
 |zero=>
   intro Aa j a w hN hs hc BE CP h fuel hf;have AX:∀p∈L,Aa.getD p.1 ZC=ZB:=fun p hp=>by have:=List.countP_eq_zero.1 (Nat.le_zero.1 hN) p hp;simpa using this
   rw[nW L F0 AX]at h;exact K6 Aa j a w hs hc (fun i=>⟨BE i,fun h=>by
    rcases h with h|⟨p,hp,rfl⟩
    .exact CP i h
    .exact AX p hp⟩) h fuel hf
 |succ N ih=>
   intro Aa j a w hN hs hc BE CP h fuel hf;rcases MB Aa with AX|⟨p0,I9,Tl,Qe⟩
   .rw[nW L F0 AX]at h;exact K6 Aa j a w hs hc (fun i=>⟨BE i,fun h=>by
    rcases h with h|⟨p,hp,rfl⟩
    .exact CP i h
    .exact AX p hp⟩) h fuel hf
   have gd:∀i,i<ops.size->Aa.getD i ZB=Aa.getD i ZC:=fun i hi=>by rw[iz,iz,Array.getElem?_eq_getElem Fn];rfl
   have lt0:p0.1<ops.size:=(fL.1 (Ab p0 I9)).1;have GK:p0.1∈Region.ready .any ops Aa:=by
    rw[mem_ready];refine⟨by rw[gd _ lt0];exact Tl,p0.2.o,Ab p0 I9,fun e he hb=> ?_⟩;obtain⟨h1,h2⟩:=JQ p0 I9 e he hb;rcases h2 with h2|⟨q,hq,e1⟩
    .exact CP _ h2
    .cases Ds:Aa.getD e.on ZC with
     |true=>rfl
     |false=>have:=Qe q hq (by rw[e1];exact Ds);omega
   obtain⟨fuel,rfl⟩:∃f,fuel=f+1:=by
    cases fuel with
    |zero=>have:=vv (ops:=ops) hs lt0 Tl;omega
    |succ f=>exact⟨f,rfl⟩
   have step:∀p∈L,Aa.getD p.1 ZC=ZC->(∀e∈p.2.o.after,ZX .any e=ZB->Aa.getD e.on ZC=ZB)->
    RecOk P W0.hw ρ n W0.heap.size fb ops p.2 (dF (fun i=>Aa.getD i ZC) L F0)/\
    ∀j' a' w',Rel ρ n X W0 fb ((dF (fun i=>Aa.getD i ZC) L F0).rec' p.2) j' a' w'->wpAnyIn (Fw ro) 0 P .any ops Q fuel (Aa.setIfInBounds p.1 ZB) a' w':=by
    intro p hp DU AX;obtain⟨m,hm⟩:=List.getElem?_of_mem hp;have hml:m<L.length:=(bX.1 hm).1;have D0:L=L.take m++p::L.drop (m+1):=by rw[Az hml]at hm;cases hm;simp
    have CF:∀q∈L.take m,Aa.getD q.1 ZC=ZC->Indep ops q.2 p.2:=by
     intro q hq Cu;obtain⟨k,hk⟩:=List.getElem?_of_mem hq;have hkm:k<m:=by have:=(bX.1 hk).1;rw[List.length_take]at this;omega
     rw[List.getElem?_take_of_lt hkm]at hk;rcases Hl k m q p hkm hk hm with h1|h1
     .exact h1
     .exfalso;have:=h1 (fun i=>Aa.getD i ZC) hc (fun o' GE e he hb=>by
       rw[Ab p hp]at GE;cases GE;exact AX e he hb)
      (try dsimp only at this)
      rw[Cu]at this;cases this
    have Hm:∀q∈L.drop (m+1),Aa.getD q.1 ZC=ZB->Indep ops q.2 p.2:=by
     intro q hq Cu;obtain⟨k,hk⟩:=List.getElem?_of_mem hq;rw[List.getElem?_drop]at hk;rcases Hl m (m+1+k) p q Fn hm hk with h1|h1
     .exact h1.symm
     .exfalso;have:=h1 (fun i=>Aa.getD i ZC) hc (fun o' GE e he hb=>hc q.1 o' GE Cu e he hb)
      (try dsimp only at this)
      rw[DU]at this;cases this
    have hF:dF (fun i=>Aa.getD i ZC) L F0=dF (fun i=>Aa.getD i ZC) (L.drop (m+1)) (dF (fun i=>Aa.getD i ZC) (L.take m) F0):=by
     conv=>lhs;rw[D0]
     rw[jR];simp only[dF,DU];rfl
    have Ef:Agree ops p.2 (rR (L.take m) F0) (dF (fun i=>Aa.getD i ZC) L F0):=by rw[hF];exact lQ _ _ _ (ow _ _ _ (Agree.refl ops p.2 F0) CF) Hm
    refine⟨(hr m p hm).agree Ef,fun j' a' w' h'=> ?_⟩;have hpi:p.1<ops.size:=(fL.1 (Ab p hp)).1;have Cs:∀k,(Aa.setIfInBounds p.1 ZB).getD k ZC=if k=p.1 then ZB else Aa.getD k ZC:=by
     intro k;rw[iz,Array.getElem?_setIfInBounds];by_cases hk:k=p.1
     .subst hk;simp[hs,hpi]
     .have GX:¬p.1=k:=fun e=>hk e.symm;simp[hk,GX,iz]
    have IK:∀q,q∈L.take m\/q∈L.drop (m+1)->q.1≠p.1:=by
     intro q hq e;have hqL:q∈L:=by
      rcases hq with hq|hq
      .exact List.mem_of_mem_take hq
      .exact List.mem_of_mem_drop hq
     have e2:=idx hqL hp e;subst e2;have Ni:=EA;rw[D0,List.map_append,YR]at Ni;rw[List.nodup_append]at Ni;obtain⟨_,h2,h3⟩:=Ni;rcases hq with hq|hq
     .exact h3 _ (List.mem_map.2 ⟨q,hq,rfl⟩) _ bG rfl
     .exact(List.nodup_cons.1 h2).1 (List.mem_map.2 ⟨q,hq,rfl⟩)
    refine ih (Aa.setIfInBounds p.1 ZB) j' a' w' ?_ (by simp[hs]) (tu hs (Ab p hp) hc AX) (fun i hi=> ?_) (fun i hi=>getD_set_true (CP i hi)) ?_ fuel (by have:=vv (ops:=ops) hs hpi DU;omega)
    .have:L.countP (fun q=>!(Aa.setIfInBounds p.1 ZB).getD q.1 ZC)<L.countP (fun q=>!Aa.getD q.1 ZC):=by
      rw[D0,List.countP_append,List.countP_append,List.countP_cons,List.countP_cons];have c1:∀l:List (Nat×Rec),(∀q∈l,q.1≠p.1)->l.countP (fun q=>!(Aa.setIfInBounds p.1 ZB).getD q.1 ZC)=l.countP (fun q=>!Aa.getD q.1 ZC):=by intro l B0;apply List.countP_congr;intro q hq;simp only[Cs,B0 q hq,dz]
      rw[c1 _ (fun q hq=>IK q (.inl hq)),c1 _ (fun q hq=>IK q (.inr hq))];simp[Cs,DU]
     omega
    .rw[Cs]at hi;split at hi
     next e=>subst e;exact .inr ⟨p,hp,rfl⟩
     .exact BE i hi
    .have:dF (fun k=>(Aa.setIfInBounds p.1 ZB).getD k ZC) L F0=(dF (fun i=>Aa.getD i ZC) L F0).rec' p.2:=by
      rw[hF]
      conv=>lhs;rw[D0]
      rw[jR];simp only[dF,Cs,aW];rw[lD (sel':=fun i=>Aa.getD i ZC) (L.take m) F0 (fun q hq=>by
       simp[IK q (.inl hq)])]
      rw[lD (sel':=fun i=>Aa.getD i ZC) (L.drop (m+1)) _ (fun q hq=>by
       simp[IK q (.inr hq)])]
      exact qF _ _ Hm
     rw[this];exact h'
   by_cases E6:Float P ops (Su base L p0.1) p0.1 p0.2.o
   ·
    obtain⟨Ja,hgo⟩:=step p0 I9 Tl (fun e he hb=>by
     obtain⟨_,o,ho,AX⟩:=mem_ready.1 GK;rw[Ab p0 I9]at ho;cases ho;exact AX e he hb)
    have hwnt:p0.2.want=ZB:=by rw[<-abT h Ja];simp[Region.wanted,E6.guard]
    have h1:=Ut (Q:=fun _ _ _=>False) h Ja hwnt (K:=fun a' w'=>∃j',Rel ρ n X W0 fb ((dF (fun i=>Aa.getD i ZC) L F0).rec' p0.2) j' a' w') (fun j' a' w' h'=>⟨j',h'⟩);have Eo:Region.wanted p0.2.o (yielded ops a.tmps)=ZB:=by simp[Region.wanted,E6.guard]
    .obtain⟨v,hv⟩:=E6.still a w _ h1;have h2:=h1;unfold Oper.wp at h2;rw[hv w]at h2;obtain⟨j',h3⟩:∃j',Rel ρ n X W0 fb ((dF (fun i=>Aa.getD i ZC) L F0).rec' p0.2) j' (a.put p0.2.o.dst v) w:=h2;refine tO (Ab p0 I9) (Region.noSelect_spec E6.nosel) hdf (fun c a w h=>ak h (hQ c _ w)) fuel Aa a w (fun k ok hk Bg DU Qj=> ?_) GK (.inl ⟨Eo,hv⟩) (hgo j' _ w h3);refine E6.free k ok hk Bg ?_ Qj;have Hj:k<ops.size:=(fL.1 hk).1;rw[gd k Hj]at DU;cases O2:Su base L p0.1 k with
     |false=>rfl
     |true=>
       exfalso;simp only[Su,eu,List.any_eq_true,ne,Nat.blt_eq]at O2;rcases O2 with h4|⟨q,hq,h4,h5⟩
       .rw[CP k h4]at DU;cases DU
       .have e1:=Ah h4;have:=Qe q hq (by rw[e1];exact DU);omega
   .refine⟨fun Ei=>(by rw[Ei]at GK;cases GK),fun i hi=> ?_⟩;obtain⟨DU,o,ho,AX⟩:=mem_ready.1 hi;have A6:i<ops.size:=(fL.1 ho).1;rw[gd i A6]at DU;have CD:∃p∈L,p.1=i:=by
     by_cases hh:∃p∈L,p.1=i
     .exact hh
     .exfalso;have hb:base i=ZC:=by
       cases hb:base i with
       |false=>rfl
       |true=>rw[CP i hb]at DU;cases DU
      rcases hout i A6 hb (fun p hp e=>hh ⟨p,hp,e⟩) p0 I9 with h1|h1
      .exact E6 h1
      .have:=h1 (fun i=>Aa.getD i ZC) hc (fun o' GE e he Ds=>by
        rw[ho]at GE;cases GE;exact AX e he Ds)
       (try dsimp only at this)
       rw[Tl]at this;cases this
    obtain⟨p,hp,rfl⟩:=CD;rw[Ab p hp]at ho;cases ho;obtain⟨Ja,hgo⟩:=step p hp DU AX;exact mC h Ja (Ab p hp) (fun j' a' w' h'=>hgo j' a' w' h')
end
def Ha(n:Nat)(tmps:TM):Operand->Option V
 |.tmp t=>if Nat.blt t n then(match tmps.get? t with
   |some .top=>ZD
   |x=>x)else ZD
 |.const v=>ofValue v
 |.global _=>ZD
 |.func f=>ZA (.one (.fn f))
def Jx(heap:List Ob)(b o:Nat):Option C:=match heap[b]? with
 |some (.box cs _)=>cs[o]?
 |_=>ZD
def HJ(heap:List Ob)(id:Nat):Option RowOb:=match heap[id]? with
 |some (.row r)=>ZA r
 |_=>ZD
def Cx.fbs(cx:Cx)(b:Nat):Option (List C):=cx.fb[b]?
def Lr(heap:List Ob)(b o n:Nat):Option (List C):=match heap[b]? with
 |some (.box cs _)=>Q6 cs o n
 |_=>ZD
def ahg{heap:List Ob}(b o n:Nat)(ds:List C)(h:Lr heap b o n=ZA ds):jO (Jx heap) b o n=ZA ds:=by
 unfold Lr at h;split at h
 next cs ty hb=>have:=Uf (ld:=Jx heap) (b:=b) (k:=0) h (fun i=>by simp[Jx,hb]);rwa [be]at this
 .exact ST
def St.vw(cx:Cx)(s:St):Vw:=⟨Ha s.n s.tmps,Jx s.heap,HJ s.heap,cx.fbs,s.heap.length,Lr s.heap,ahg⟩
def B8(heap:List Ob)(b:Nat):Option (List C×Nat):=match heap[b]? with
 |some (.box cs ty)=>ZA (cs,ty)
 |_=>ZD
def BP(heap:List Ob)(b:Nat):Option (Option RowOb):=match heap[b]? with
 |some (.row r)=>ZA (ZA r)
 |some .gone=>ZA ZD
 |_=>ZD
def GI(heap:List Ob)(b:Nat):Option Lp:=match heap[b]? with
 |some (.loop y)=>ZA y
 |_=>ZD
def Ob.noLp:Ob->Bool
 |.loop _=>ZC
 |_=>ZB
def lG{heap:List Ob}{ob Tv:Ob}(h:heap[b]? =ZA ob)(h1:ob.noLp=ZB)(h2:Tv.noLp=ZB)(x:Nat):GI (heap.set b Tv) x=GI heap x:=by
 unfold GI;rw[dY];by_cases hb:b=x
 .subst hb;rw[ae rfl,ae (bX.1 h).1,h];cases ob<;>cases Tv<;>first|rfl|(cases h1;done)|(cases h2;done)
 .rw[aa hb]
def fS{heap l:List Ob}(h:∀ob∈l,ob.noLp=ZB)(x:Nat):GI (heap++l) x=GI heap x:=by
 unfold GI;rcases bn x heap.length with h1|h1
 .rw[AW h1]
 .rw[Bc h1,bN h1];cases hl:l[x-heap.length]? with
  |none=>rfl
  |some ob=>have:=h ob (ew hl);cases ob<;>first|rfl|cases this
def Aw(tm:Nat->V)(heap:List Ob):Fz:=⟨tm,B8 heap,BP heap,GI heap⟩
def St.fs(s:St):Fz:=Aw (fun t=>(s.tmps.get? t).getD (.one .undef)) s.heap
def HA:List (Nat×Nat×C)->List Ob->Option (List Ob)
 |[],h=>ZA h
 |(b,o,c)::l,h=>match h[b]? with
   |some (.box cs ty)=>if o<cs.length then HA l (h.set b (.box (cs.set o c) ty))else ZD
   |_=>ZD
def Ls(b:Nat):Nat->List (Nat×Nat×C)->Option (List C)
 |_,[]=>ZA []
 |o,(b',o',c)::l=>if Nat.beq b b'&&Nat.beq o o' then(Ls b (o+1) l).map (c::·)else ZD
def qB:List C->Nat->List C->Option (List C)
 |cs,0,[]=>ZA cs
 |_::cs,0,v::vs=>(qB cs 0 vs).map (v::·)
 |c::cs,o+1,vs=>(qB cs o vs).map (c::·)
 |[],_,_=>ZD
def N9(l:List (Nat×Nat×C))(h:List Ob):Option (List Ob):=
 match l with
 |(b,o,c)::l'=>(match Ls b o ((b,o,c)::l')with
   |some vs=>(match h[b]? with
     |some (.box cs ty)=>(qB cs o vs).map fun ds=>h.set b (.box ds ty)
     |_=>ZD)
   |none=>HA ((b,o,c)::l') h)
 |[]=>ZA h
def ahd:∀{l:List (Nat×Nat×C)} {b o:Nat} {vs:List C},Ls b o l=ZA vs->l=eQ b o vs
 |[],b,o,vs,h=>by cases h;rfl
 |(b',o',c)::l,b,o,vs,h=>by
   simp only[Ls]at h;split at h
   next hb=>simp only[ne]at hb;rw[Av]at h;obtain⟨us,h1,rfl⟩:=h;rw[ahd h1,<-Ah hb.1,<-Ah hb.2];rfl
   .exact ST
def qA:∀{cs:List C} {o:Nat} {vs ds:List C},qB cs o vs=ZA ds->o+vs.length<=cs.length/\∀n,(n<o\/o+vs.length<=n->ds[n]? =cs[n]?)/\(o<=n->n<o+vs.length->ds[n]? =vs[n-o]?)
 |cs,0,[],ds,h=>by
   have:cs=ds:=by cases cs<;>simpa[qB]using h
   subst this;exact⟨by simp,fun n=>⟨fun _=>rfl,fun _ h=>by simp at h⟩⟩
 |c::cs,0,v::vs,ds,h=>by
   simp only[qB,Av]at h;obtain⟨us,h1,rfl⟩:=h;obtain⟨h2,h3⟩:=qA h1;refine⟨by simp only[YM];omega,fun n=>⟨fun hn=> ?_,fun _ hn=> ?_⟩⟩
   .cases n with
    |zero=>simp only[YM]at hn;omega
    |succ n=>simp only[lu];exact(h3 n).1 (by simp only[YM]at hn;omega)
   .cases n with
    |zero=>rfl
    |succ n=>have:=(h3 n).2 (Nat.zero_le _) (by simp only[YM]at hn;omega);simpa using this
 |c::cs,o+1,vs,ds,h=>by
   simp only[qB,Av]at h;obtain⟨us,h1,rfl⟩:=h;obtain⟨h2,h3⟩:=qA h1;refine⟨by simp only[YM];omega,fun n=>⟨fun hn=> ?_,fun h4 hn=> ?_⟩⟩
   .cases n with
    |zero=>rfl
    |succ n=>simp only[lu];exact(h3 n).1 Fn
   .cases n with
    |zero=>omega
    |succ n=>simp only[lu,Nat.add_sub_add_right];exact(h3 n).2 Fn Fn
 |[],0,v::vs,ds,h=>by cases h
 |[],o+1,vs,ds,h=>by cases h
def aaz:∀{vs:List C} {b o:Nat} {h:List Ob} {cs:List C} {ty:Nat},h[b]? =ZA (.box cs ty)->o+vs.length<=cs.length->HA (eQ b o vs) h=ZA (h.set b (.box (setRow cs o vs) ty))
 |[],b,o,h,cs,ty,hb,hl=>by
   simp only[eQ,HA,setRow];congr 1;apply List.ext_getElem?;intro n;rw[dY];split
   next hn=>subst hn;rw[ae (bX.1 hb).1];exact hb
   .rfl
 |v::vs,b,o,h,cs,ty,hb,hl=>by have Ap:b<h.length:=(bX.1 hb).1;simp only[YM]at hl;simp only[eQ,HA,hb];rw[ae Fn,aaz (cs:=cs.set o v) (ty:=ty) (by rw[dY];simp[Ap]) Xz];simp only[setRow,List.set_set]
def sk:∀(vs cs:List C) (o n:Nat),o+vs.length<=cs.length->(setRow cs o vs)[n]? =if o<=n/\n<o+vs.length then vs[n-o]? else cs[n]?
 |[],cs,o,n,_=>by simp only[setRow,List.length_nil];rw[aa Fn]
 |v::vs,cs,o,n,hl=>by
   simp only[YM]at hl ⊢;rw[setRow,sk vs (cs.set o v) (o+1) n Xz];by_cases h1:o+1<=n/\n<o+1+vs.length
   .rw[ae h1,ae Fn,show n-o=(n-(o+1))+1 by omega];rfl
   .rw[aa h1,dY];by_cases h2:o=n
    .subst h2;rw[ae rfl,ae Fn,ae Fn,Nat.sub_self];rfl
    .rw[aa h2,aa Fn]
def apm{l:List (Nat×Nat×C)}{h h':List Ob}(e:N9 l h=ZA h'):HA l h=ZA h':=by
 unfold N9 at e;split at e
 .split at e
  .rename_i vs Be;split at e
   .rename_i cs ty hb;rw[Av]at e;obtain⟨ds,h1,rfl⟩:=e;obtain⟨h2,h3⟩:=qA h1;rw[ahd Be,aaz hb h2];congr 2;congr 1;apply List.ext_getElem?;intro n;rw[sk _ _ _ _ h2];split
    next hn=>exact((h3 n).2 hn.1 hn.2).symm
    next hn=>exact((h3 n).1 Fn).symm
   .cases e
  .exact e
 .exact e
def zZ(heap:List Ob)(eff:Eff):Option (List Ob):=
 match eff.al,eff.re with
 |some x,.none=>(match eff.wr with |[]=>ZA (heap++[.box x.1 x.2])|_=>ZD)
 |none,.none=>N9 eff.wr heap
 |none,.set id r=>(match eff.wr,heap[id]? with
   |[],ZA (.row q)=>if q.own&&r.own then ZA (heap.set id (.row r))else ZD
   |_,_=>ZD)
 |none,.mk rs=>(match eff.wr with |[]=>ZA (heap++rs.map .row)|_=>ZD)
 |none,.app old r=>(match eff.wr,heap[old]? with
   |[],ZA (.row q)=>if q.own&&r.own then ZA (heap.set old .gone++[.row r])else ZD
   |_,_=>ZD)
 |none,.view old q r=>(match eff.wr,heap[old]? with
   |[],ZA (.row _)=>if !q.own &&!r.own then ZA (heap.set old (.row q)++[.row r])else ZD
   |_,_=>ZD)
 |none,.frz old q r=>(match eff.wr,heap[old]? with
   |[],ZA (.row q0)=>if q0.own&&(!q.own&&r.own)then ZA (heap.set old (.row q)++[.row r])else ZD
   |_,_=>ZD)
 |none,.tset old q tab r=>(match eff.wr,heap[old]?,heap[tab]? with
   |[],ZA (.row q0),ZA (.row r0)=>if(q0.own &&!q.own)&&((r0.own&&r.own) &&!Nat.beq tab old)then ZA ((heap.set old (.row q)).set tab (.row r))else ZD
   |_,_,_=>ZD)
 |none,.peek r=>(match eff.wr with
   |[]=>if !r.own then ZA (heap++[.row r])else ZD
   |_=>ZD)
 |_,_=>ZD
def St.app(s:St)(dst:Option Nat)(eff:Eff):Option St:=
 match zZ s.heap eff with
 |none=>ZD
 |some h=>match dst with
   |none=>ZA ⟨s.tmps,h⟩
   |some d=>if Nat.blt d s.n then ZA ⟨s.tmps.set d eff.val,h⟩else ZD
def ai4(s:St)(hn:s.n<=s.tmps.length)(x:Operand):OQ s.fs s.n x=Ha s.n s.tmps x:=by
 cases x with
 |tmp t=>
   simp only[OQ,Ha,St.fs,Aw];by_cases h:t<s.n
   .obtain⟨v,h2⟩:=TM.get_some (nD h hn);rw[ae h,ae (by simpa[Nat.blt_eq]using h),h2];simp only[Option.getD_some];cases v<;>rfl
   .rw[aa h,aa (by simpa[Nat.blt_eq]using h)]
 |_=>rfl
def zP(s:St)(b o:Nat):CX s.fs b o=Jx s.heap b o:=by simp only[CX,St.fs,Aw,B8,Jx];split<;>rfl
def iS(s:St)(id:Nat):O8 s.fs id=HJ s.heap id:=by simp only[O8,St.fs,Aw,BP,HJ];split<;>simp_all
def aeE:∀(l:List (Nat×Nat×C)) (h h':List Ob) (tm:Nat->V),HA l h=ZA h'->Aw tm h'=Fz.wrs (Aw tm h) l/\∀p∈l,∃c,CX (Aw tm h) p.1 p.2.1=ZA c
 |[],h,h',tm,e=>by cases e;exact⟨rfl,fun p hp=>by cases hp⟩
 |(b,o,c)::l,h,h',tm,e=>by
   simp only[HA]at e;split at e
   .rename_i cs ty hb;split at e
    .rename_i ho;obtain⟨h1,h2⟩:=aeE l _ h' tm e;have PU:b<h.length:=(bX.1 hb).1;have hw:Aw tm (h.set b (.box (cs.set o c) ty))=Fz.wr (Aw tm h) (b,o,c):=by
      refine Fz.ext' (fun _=>rfl) (fun b'=> ?_) (fun b'=> ?_) (fun b'=>lG hb rfl rfl b')
      .simp only[Fz.wr,Aw,B8,dY];by_cases LJ:b'=b
       .subst LJ;simp only[aW,PU,hb,ZK]
       .simp[LJ,show¬b=b' from fun e=>LJ e.symm]
      .simp only[Fz.wr,Aw,BP,dY];by_cases LJ:b=b'
       .subst LJ;simp only[aW,PU,hb]
       .simp[LJ]
     refine⟨by rw[h1,hw];rfl,fun p hp=> ?_⟩;rcases ZN.1 hp with rfl|hp
     .exact⟨cs[o],by simp[CX,Aw,B8,hb,Az ho]⟩
     .obtain⟨c',FQ⟩:=h2 p hp;rw[hw,xG]at FQ;split at FQ
      .rw[Av]at FQ;obtain⟨x,hx,_⟩:=FQ;exact⟨x,hx⟩
      .exact⟨c',FQ⟩
    .cases e
   .cases e
def sy{heap:List Ob}(h:heap[b]? =ZA (.row r)):BP heap b=ZA (ZA r)/\B8 heap b=ZD/\b<heap.length:=⟨by simp[BP,h],by simp[B8,h],(bX.1 h).1⟩
def jT{heap:List Ob}(h:heap.length<=b):BP heap b=ZD/\B8 heap b=ZD:=⟨by simp[BP,bN h],by simp[B8,bN h]⟩
def adZ{heap JY:List Ob}(h:zZ heap eff=ZA JY)(tm:Nat->V):
  Aw tm JY=((match eff.al with|some x=>(Aw tm heap).new heap.length x|none=>(Aw tm heap).wrs eff.wr).rws (eff.re.rs heap.length))/\(∀p∈eff.wr,∃c,CX (Aw tm heap) p.1 p.2.1=ZA c)/\FK (Aw tm heap) heap.length eff.re/\((eff.al=ZD/\eff.wr=[])\/eff.re=.none):=by
 unfold zZ at h;split at h
 .rename_i x Dh DG;split at h
  .rename_i BS;cases h;rw[Dh,DG,BS];refine⟨?_,fun p hp=>Yi,trivial,.inr rfl⟩;refine Fz.ext' (fun _=>rfl) (fun b=> ?_) (fun b=> ?_) (fun b=>fS (fun ob H6=>by rw[cV.1 H6];rfl) b)
   .simp only[Fz.new,Fz.rws,RE.rs,List.foldl_nil,Aw,B8];by_cases hb:b=heap.length
    .subst hb;simp
    .rcases bn b heap.length with h1|h1
     .rw[AW h1];simp[hb]
     .rw[bN Xz,bN h1];simp[hb]
   .simp only[Fz.new,Fz.rws,RE.rs,List.foldl_nil,Aw,BP];by_cases hb:b=heap.length
    .subst hb;simp
    .rcases bn b heap.length with h1|h1
     .rw[AW h1]
     .rw[bN Xz,bN h1]
  .exact ST
 next Dh DG=>rw[Dh,DG];obtain⟨h1,h2⟩:=aeE eff.wr heap JY tm (apm h);exact⟨h1,h2,trivial,.inr rfl⟩
 .rename_i id r Dh DG;split at h
  .rename_i q BS hq;split at h
   .rename_i ho;rw[ne]at ho;cases h;rw[Dh,DG,BS];obtain⟨r1,r2,r3⟩:=sy hq;refine⟨?_,fun p hp=>Yi,⟨⟨q,r1,ho.1⟩,ho.2⟩,.inl ⟨rfl,rfl⟩⟩;refine Fz.ext' (fun _=>rfl) (fun b=> ?_) (fun b=> ?_) (fun b=>lG hq rfl rfl b)
    .simp only[Fz.wrs,Fz.rws,RE.rs,List.foldl_nil,YT,Fz.rw1,Aw,B8,dY];by_cases hb:id=b
     .exact Yb
     .simp[hb]
    .simp only[Fz.wrs,Fz.rws,RE.rs,List.foldl_nil,YT,Fz.rw1,Aw,BP,dY];by_cases hb:id=b
     .subst hb;simp[r3]
     .simp[hb,show¬b=id from fun e=>hb e.symm]
   .exact ST
  .exact ST
 .rename_i rs Dh DG;split at h
  .rename_i BS;cases h;rw[Dh,DG,BS];refine⟨?_,fun p hp=>Yi,fun i hi=>(jT Fn).1,.inl ⟨rfl,rfl⟩⟩;refine Fz.ext' (fun t=> ?_) (fun b=> ?_) (fun b=> ?_) (fun b=> ?_)
   .rw[(aX _ _).2.1];rfl
   .rw[(aX _ _).1];simp only[Fz.wrs,List.foldl_nil,Aw,B8];rcases bn b heap.length with h1|h1
    .rw[AW h1]
    .rw[Bc h1,iO,bN h1];cases rs[b-heap.length]? <;>rfl
   .show _=((Aw tm heap).rws (E3 heap.length rs)).row b;rw[mK];simp only[Aw,BP];rcases bn b heap.length with h1|h1
    .rw[AW h1,aa Fn]
    .rw[Bc h1,iO];by_cases h2:b<heap.length+rs.length
     .rw[ae ⟨h1,h2⟩,Az Fn];rfl
     .rw[aa Fn,bN Fn,bN h1];rfl
   .rw[(aX _ _).2.2];exact fS (fun ob H6=>by obtain⟨r,_,rfl⟩:=List.mem_map.1 H6;rfl) b
  .exact ST
 .rename_i old r Dh DG;split at h
  .rename_i q BS hq;split at h
   .rename_i ho;rw[ne]at ho;cases h;rw[Dh,DG,BS];obtain⟨r1,r2,r3⟩:=sy hq;refine⟨?_,fun p hp=>Yi,⟨⟨q,r1,ho.1⟩,ho.2,(jT (YJ _)).1,by omega⟩,.inl ⟨rfl,rfl⟩⟩;refine Fz.ext' (fun _=>rfl) (fun b=> ?_) (fun b=> ?_) (fun b=>(fS (fun ob H6=>by rw[cV.1 H6];rfl) b).trans (lG hq rfl rfl b))
    .simp only[Fz.wrs,Fz.rws,RE.rs,List.foldl_nil,YT,Fz.rw1,Aw,B8];rcases bn b heap.length with h1|h1
     .rw[AW XC,dY];by_cases hb:old=b
      .exact Yb
      .simp[hb]
     .rw[Bc XC,bN h1];simp only[YU];cases h2:b-heap.length<;>simp
    .simp only[Fz.wrs,Fz.rws,RE.rs,List.foldl_nil,YT,Fz.rw1,Aw,BP];rcases bn b heap.length with h1|h1
     .rw[AW XC,dY,aa (show¬b=heap.length by omega)];by_cases hb:old=b
      .subst hb;simp[r3]
      .exact X1
     .rw[Bc XC,bN h1];simp only[YU];by_cases h2:b=heap.length
      .subst h2;simp
      .rw[aa h2,aa (show¬b=old by omega)];rw[bN Xz]
   .exact ST
  .exact ST
 .rename_i old q r Dh DG;split at h
  .rename_i q0 BS hq;split at h
   .rename_i ho;rw[ne]at ho;cases h;rw[Dh,DG,BS];obtain⟨r1,r2,r3⟩:=sy hq;refine⟨?_,fun p hp=>Yi,⟨⟨q0,r1⟩,by simpa using ho.1,by simpa using ho.2,(jT (YJ _)).1,by omega⟩,.inl ⟨rfl,rfl⟩⟩;refine Fz.ext' (fun _=>rfl) (fun b=> ?_) (fun b=> ?_) (fun b=>(fS (fun ob H6=>by rw[cV.1 H6];rfl) b).trans (lG hq rfl rfl b))
    .simp only[Fz.wrs,Fz.rws,RE.rs,List.foldl_nil,YT,Fz.rw1,Aw,B8];rcases bn b heap.length with h1|h1
     .rw[AW XC,dY];by_cases hb:old=b
      .exact Yb
      .simp[hb]
     .rw[Bc XC,bN h1];simp only[YU];cases h2:b-heap.length<;>simp
    .simp only[Fz.wrs,Fz.rws,RE.rs,List.foldl_nil,YT,Fz.rw1,Aw,BP];rcases bn b heap.length with h1|h1
     .rw[AW XC,dY,aa (show¬b=heap.length by omega)];by_cases hb:old=b
      .subst hb;simp[r3]
      .exact X1
     .rw[Bc XC,bN h1];simp only[YU];by_cases h2:b=heap.length
      .subst h2;simp
      .rw[aa h2,aa (show¬b=old by omega)];rw[bN Xz]
   .exact ST
  .exact ST
 .rename_i old q r Dh DG;split at h
  .rename_i q0 BS hq;split at h
   .rename_i ho;simp only[ne]at ho;cases h;rw[Dh,DG,BS];obtain⟨r1,r2,r3⟩:=sy hq;refine⟨?_,fun p hp=>Yi,⟨⟨q0,r1,ho.1⟩,by simpa using ho.2.1,ho.2.2,(jT (YJ _)).1,by omega⟩,.inl ⟨rfl,rfl⟩⟩;refine Fz.ext' (fun _=>rfl) (fun b=> ?_) (fun b=> ?_) (fun b=>(fS (fun ob H6=>by rw[cV.1 H6];rfl) b).trans (lG hq rfl rfl b))
    .simp only[Fz.wrs,Fz.rws,RE.rs,List.foldl_nil,YT,Fz.rw1,Aw,B8];rcases bn b heap.length with h1|h1
     .rw[AW XC,dY];by_cases hb:old=b
      .exact Yb
      .simp[hb]
     .rw[Bc XC,bN h1];simp only[YU];cases h2:b-heap.length<;>simp
    .simp only[Fz.wrs,Fz.rws,RE.rs,List.foldl_nil,YT,Fz.rw1,Aw,BP];rcases bn b heap.length with h1|h1
     .rw[AW XC,dY,aa (show¬b=heap.length by omega)];by_cases hb:old=b
      .subst hb;simp[r3]
      .exact X1
     .rw[Bc XC,bN h1];simp only[YU];by_cases h2:b=heap.length
      .subst h2;simp
      .rw[aa h2,aa (show¬b=old by omega)];rw[bN Xz]
   .exact ST
  .exact ST
 .rename_i old q tab r Dh DG;split at h
  .rename_i q0 r0 BS hq FF;split at h
   .rename_i ho;simp only[ne,ZL]at ho;have Bg:tab≠old:=fun e=>by have:=ho.2.2;rw[e]at this;simp at this
    cases h;rw[Dh,DG,BS];obtain⟨r1,r2,r3⟩:=sy hq;obtain⟨t1,t2,t3⟩:=sy FF;have ED:(heap.set old (.row q))[tab]? =ZA (.row r0):=by rw[dY,aa (fun e=>Bg e.symm)];exact FF
    refine⟨?_,fun p hp=>Yi,⟨⟨q0,r1,ho.1.1⟩,ho.1.2,⟨r0,t1,ho.2.1.1⟩,ho.2.1.2,Bg⟩,.inl ⟨rfl,rfl⟩⟩;refine Fz.ext' (fun _=>rfl) (fun b=> ?_) (fun b=> ?_) (fun b=>(lG ED rfl rfl b).trans (lG hq rfl rfl b))
    .simp only[Fz.wrs,Fz.rws,RE.rs,List.foldl_nil,YT,Fz.rw1,Aw,B8,dY,YU];by_cases hb:tab=b
     .subst hb;simp only[aW,t3,FF]
     .simp only[aa hb];by_cases Ds:old=b
      .subst Ds;simp only[aW,r3,hq]
      .simp[Ds]
    .simp only[Fz.wrs,Fz.rws,RE.rs,List.foldl_nil,YT,Fz.rw1,Aw,BP,dY,YU];by_cases hb:tab=b
     .subst hb;simp[t3]
     .simp only[aa hb,aa (fun e:b=tab=>hb e.symm)];by_cases Ds:old=b
      .subst Ds;simp[r3]
      .simp[Ds,show¬b=old from fun e=>Ds e.symm]
   .exact ST
  .exact ST
 .rename_i r Dh DG;split at h
  .rename_i BS;split at h
   .rename_i ho;cases h;rw[Dh,DG,BS];refine⟨?_,fun p hp=>Yi,⟨by simpa using ho,(jT (YJ _)).1⟩,.inl ⟨rfl,rfl⟩⟩;refine Fz.ext' (fun _=>rfl) (fun b=> ?_) (fun b=> ?_) (fun b=>fS (fun ob H6=>by rw[cV.1 H6];rfl) b)
    .simp only[Fz.wrs,Fz.rws,RE.rs,List.foldl_nil,YT,Fz.rw1,Aw,B8];rcases bn b heap.length with h1|h1
     .rw[AW h1]
     .rw[Bc h1,bN h1];cases h2:b-heap.length<;>simp
    .simp only[Fz.wrs,Fz.rws,RE.rs,List.foldl_nil,YT,Fz.rw1,Aw,BP];rcases bn b heap.length with h1|h1
     .rw[AW h1,aa (show¬b=heap.length by omega)]
     .rw[Bc h1,bN h1];by_cases h2:b=heap.length
      .subst h2;simp
      .rw[aa h2,bN Xz]
   .exact ST
  .exact ST
 .exact ST
def St.app_ok{s s':St}(hn:s.n<=s.tmps.length){dst:Option Nat}(h:s.app dst eff=ZA s'):s'.fs=s.fs.app dst s.heap.length eff/\(s'.tmps.length=s.tmps.length/\s'.n=s.n)/\(∀d,dst=ZA d->d<s.n)/\(∀p∈eff.wr,∃c,CX s.fs p.1 p.2.1=ZA c)/\FK s.fs s.heap.length eff.re/\((eff.al=ZD/\eff.wr=[])\/eff.re=.none):=by
 unfold St.app at h;split at h
 .exact ST
 .rename_i hp DF;obtain⟨h1,h2,h3,h4⟩:=adZ DF (fun t=>(s.tmps.get? t).getD (.one .undef));have key:∀dst,(Aw (fun t=>(s.tmps.get? t).getD (.one .undef)) hp).put dst eff.val=s.fs.app dst s.heap.length eff:=fun dst=>by
   unfold Fz.app;rw[h1];rfl
  split at h
  .cases h;refine⟨?_,⟨rfl,rfl⟩,fun d hd=>(by cases hd),h2,h3,h4⟩;rw[<-key];refine Fz.ext' (fun t=> ?_) (fun _=>rfl) (fun _=>rfl) (fun _=>rfl);simp[Fz.put,St.fs,Aw]
  .rename_i d;split at h
   .rename_i hd;have hd:d<s.n:=by simpa[Nat.blt_eq]using hd
    cases h;refine⟨?_,⟨rfl,rfl⟩,fun d' GW=>(by cases GW;exact hd),h2,h3,h4⟩;rw[<-key];refine Fz.ext' (fun t=> ?_) (fun _=>rfl) (fun _=>rfl) (fun _=>rfl);simp only[Fz.put,St.fs,Aw,TM.get_set s.tmps eff.val hd];by_cases ht:d=t
    .subst ht;simp
    .simp[ht]
   .exact ST
def Et(cx:Cx)(ops:Array Oper):List Oper->St->Kw->(List Rec->St->Kw->Tr)->Tr
 |[],s,kw,k=>k [] s kw
 |o::l,s,kw,k=>
   match o.guard with
   |none=>Ku cx (s.vw cx) o.op kw fun eff kw=>
     match s.app o.dst eff with
     |some s'=>Et cx ops l s' kw fun rs Jk kw=>k (⟨o,ZB,s.heap.length,eff⟩::rs) Jk kw
     |none=>.stuck 60
   |some (g,b)=>
     match((ops[g]?).bind (·.dst)).bind (fun t=>if Nat.blt t s.n then s.tmps.get? t else ZD)with
     |some (.one (.bool e))=>AB e (fun x kw=>
       if x==b then Ku cx (s.vw cx) o.op kw fun eff kw=>
        match s.app o.dst eff with
        |some s'=>Et cx ops l s' kw fun rs Jk kw=>k (⟨o,ZB,s.heap.length,eff⟩::rs) Jk kw
        |none=>.stuck 60
       else match s.app o.dst {val:=.one .undef}with
        |some s'=>Et cx ops l s' kw fun rs Jk kw=>k (⟨o,ZC,s.heap.length,{val:=.one .undef}⟩::rs) Jk kw
        |none=>.stuck 60) kw
     |some (.one .undef)=>match s.app o.dst {val:=.one .undef}with
      |some s'=>Et cx ops l s' kw fun rs Jk kw=>k (⟨o,ZC,s.heap.length,{val:=.one .undef}⟩::rs) Jk kw
      |none=>.stuck 60
     |_=>.stuck 61
section
variable {P:Program}{sp:Spec}{ρ:Env}{G:Env->E->Prop}{I:Nat->List Dt->Prop}{cx:Cx}{base:Nat}
def nX(hT:∀t i,(t,i)∈cx.ty->TIok P t i)(hS:∀s∈cx.sm,SmOk P sp s)(AO:∀s∈cx.sm,∀s'∈cx.sm,s.key=s'.key->s=s'){hw:World->Prop}(hW:sp.hw=hw){ops:Array Oper}:
  ∀(l:List Oper) (s:St) (kw:Kw) (k:List Rec->St->Kw->Tr),(Et cx ops l s kw k).holds sp G ρ I->Good sp cx.sm ρ kw->s.n<=s.tmps.length->
   ∃rs s' Ak,(k rs s' Ak).holds sp G ρ I/\Good sp cx.sm ρ Ak/\KwGe Ak kw/\rs.map (·.o)=l/\s'.fs=Cb rs s.fs/\(s'.tmps.length=s.tmps.length/\s'.n=s.n)/\∀(m:Nat) r,rs[m]? =ZA r->RecOk P hw ρ s.n base cx.fbs ops r (Cb (rs.take m) s.fs)
 |[],s,kw,k,h,hg,hn=>⟨[],s,kw,h,hg,.refl _,rfl,rfl,⟨rfl,rfl⟩,fun m r hm=>by simp at hm⟩
 |o::l,s,kw,k,h,hg,hn=>by
   have next:∀(want:Bool) (eff:Eff) (Jf kw:Kw),KwGe kw Jf->((match s.app o.dst eff with|some s'=>Et cx ops l s' kw fun rs Jk kw=>k (⟨o,want,s.heap.length,eff⟩::rs) Jk kw|none=>.stuck 60:Tr)).holds sp G ρ I->Good sp cx.sm ρ kw->
    (∀s',s.app o.dst eff=ZA s'->RecOk P hw ρ s.n base cx.fbs ops ⟨o,want,s.heap.length,eff⟩ s.fs)->
    ∃rs s' Ak,(k rs s' Ak).holds sp G ρ I/\Good sp cx.sm ρ Ak/\KwGe Ak Jf/\rs.map (·.o)=o::l/\s'.fs=Cb rs s.fs/\(s'.tmps.length=s.tmps.length/\s'.n=s.n)/\∀(m:Nat) r,rs[m]? =ZA r->RecOk P hw ρ s.n base cx.fbs ops r (Cb (rs.take m) s.fs):=by
    intro want eff Jf kw GZ h hg Ja;split at h
    .rename_i s1 Cj;obtain⟨e1,e2,e3,e4,_,_⟩:=St.app_ok hn Cj;obtain⟨rs,s',Ak,h1,h2,h0,h3,h4,h5,h6⟩:=nX hT hS AO hW l s1 kw _ h hg (by rw[e2.1,e2.2];exact hn);refine⟨⟨o,want,s.heap.length,eff⟩::rs,s',Ak,h1,h2,h0.trans GZ,by simp[h3],?_,⟨by rw[h5.1,e2.1],by rw[h5.2,e2.2]⟩,fun m r hm=> ?_⟩
     .rw[h4,e1];rfl
     .cases m with
      |zero=>simp only[cH,aU]at hm;subst hm;exact Ja s1 Cj
      |succ m=>have:=h6 m r XN;rw[e1,e2.2]at this;exact this
    .exact h.elim
   have ran:∀(Jf kw:Kw),KwGe kw Jf->(Ku cx (s.vw cx) o.op kw fun eff kw=>
     match s.app o.dst eff with
     |some s'=>Et cx ops l s' kw fun rs Jk kw=>k (⟨o,ZB,s.heap.length,eff⟩::rs) Jk kw
     |none=>.stuck 60).holds sp G ρ I->Good sp cx.sm ρ kw->
    (match o.guard with
     |none=>True
     |some (g,b)=>∃t,(ops[g]?).bind (·.dst)=ZA t/\t<s.n/\∃e:E,s.fs.tmp t=.one (.bool e)/\ZB=(e.B ρ==b))->
    ∃rs s' Ak,(k rs s' Ak).holds sp G ρ I/\Good sp cx.sm ρ Ak/\KwGe Ak Jf/\rs.map (·.o)=o::l/\s'.fs=Cb rs s.fs/\(s'.tmps.length=s.tmps.length/\s'.n=s.n)/\∀(m:Nat) r,rs[m]? =ZA r->RecOk P hw ρ s.n base cx.fbs ops r (Cb (rs.take m) s.fs):=by
    intro Jf kw GZ h hg HE;obtain⟨eff,Bn,h1,g1,l1,Ai⟩:=aqB (P:=P) (o:=o) (base:=base) hT hS AO h hg;refine next ZB eff Jf Bn (l1.trans GZ) h1 g1 (fun s1 Cj=> ?_)
    obtain⟨e1,e2,e3,e4,e5,e6⟩:=St.app_ok hn Cj;refine⟨fun _=>⟨s.vw cx,rfl,(hW▸Ai),⟨fun x hx v hv=>by rw[ai4 s hn];exact hv,fun p hp c hc=>by rw[zP];exact hc,e4,fun _=>(jT (YJ _)).2,fun id E7 r hr=>by rw[iS];exact hr,e5,rfl,e6⟩⟩,fun h=>ST,?_,e3⟩;cases J2:o.guard with
    |none=>simp[J2]
    |some p=>obtain⟨g,b⟩:=p;simp only[J2];rw[J2]at HE;obtain⟨t,h2,h3,e,h4,h5⟩:=HE;exact⟨t,h2,h3,.inl ⟨e,h4,h5⟩⟩
   have IM:∀(Jf kw:Kw) (g:Nat) (b:Bool),KwGe kw Jf->o.guard=ZA (g,b)->(match s.app o.dst {val:=.one .undef}with
     |some s'=>Et cx ops l s' kw fun rs Jk kw=>k (⟨o,ZC,s.heap.length,{val:=.one .undef}⟩::rs) Jk kw
     |none=>.stuck 60:Tr).holds sp G ρ I->Good sp cx.sm ρ kw->
    (∃t,(ops[g]?).bind (·.dst)=ZA t/\t<s.n/\((∃e:E,s.fs.tmp t=.one (.bool e)/\ZC=(e.B ρ==b))\/(s.fs.tmp t=.one .undef/\ZC=ZC)))->
    ∃rs s' Ak,(k rs s' Ak).holds sp G ρ I/\Good sp cx.sm ρ Ak/\KwGe Ak Jf/\rs.map (·.o)=o::l/\s'.fs=Cb rs s.fs/\(s'.tmps.length=s.tmps.length/\s'.n=s.n)/\∀(m:Nat) r,rs[m]? =ZA r->RecOk P hw ρ s.n base cx.fbs ops r (Cb (rs.take m) s.fs):=by
    intro Jf kw g b GZ J2 h hg HE;refine next ZC _ Jf kw GZ h hg (fun s1 Cj=> ?_)
    obtain⟨e1,e2,e3,e4,_,_⟩:=St.app_ok hn Cj;refine⟨fun h=>ST,fun _=>rfl,?_,e3⟩;simp only[J2];obtain⟨t,h1,h2,h3⟩:=HE;exact⟨t,h1,h2,h3.imp _root_.id (fun h=>⟨h.1,trivial⟩)⟩
   have Hy:∀(g t:Nat) v,((ops[g]?).bind (·.dst)).bind (fun t=>if Nat.blt t s.n then s.tmps.get? t else ZD)=ZA v->∃t,(ops[g]?).bind (·.dst)=ZA t/\t<s.n/\s.fs.tmp t=v:=by
    intro g _ v h;rw[cW]at h;obtain⟨t,h1,h2⟩:=h;split at h2
    next ht=>exact⟨t,h1,by simpa[Nat.blt_eq]using ht,by simp[St.fs,Aw,h2]⟩
    .exact XO
   unfold Et at h;split at h
   next J2=>exact ran kw kw (.refl _) h hg (by simp[J2])
   .rename_i g b J2;split at h
    .rename_i e he;obtain⟨t,h1,h2,h3⟩:=Hy g 0 _ he;obtain⟨Bn,h4,g4,_,l4⟩:=aC _ _ _ h hg;split at h4
     next hb=>exact ran kw Bn l4 h4 g4 (by simp only[J2];exact⟨t,h1,h2,e,h3,hb.symm⟩)
     next hb=>exact IM kw Bn g b l4 J2 h4 g4 ⟨t,h1,h2,.inl ⟨e,h3,by simpa using hb⟩⟩
    next he=>obtain⟨t,h1,h2,h3⟩:=Hy g 0 _ he;exact IM kw kw g b (.refl _) J2 h hg ⟨t,h1,h2,.inr ⟨h3,rfl⟩⟩
    .exact h.elim
end
end Go.Proofs.YtgolejfhoefeaabGreatDoor
