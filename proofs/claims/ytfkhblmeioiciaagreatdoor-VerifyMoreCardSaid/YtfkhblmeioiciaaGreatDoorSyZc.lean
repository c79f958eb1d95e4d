import Derived.Test.YtfkhblmeioiciaaGreatDoorSyZb
import Derived.RangeFuncRecord
import Derived.Orders
import Derived.OrdersIn
import Derived.LoopNIn
import Derived.RangeFuncLeaves
set_option maxRecDepth 100000
set_option maxHeartbeats 8000000
set_option linter.defProp false
set_option linter.unusedVariables false
set_option linter.unusedSimpArgs false
namespace Go.Proofs.YtfkhblmeioiciaaGreatDoor
open Go.RowKit
structure Ua where
 tmp:Nat->V
 box:Nat->Option (List C×Nat)
 row:Nat->Option (Option RowOb)
 lp:Nat->Option Lp
theorem Ua.ext' {F F':Ua} (h1:∀t,F.tmp t=F'.tmp t) (h2:∀b,F.box b=F'.box b) (h3:∀b,F.row b=F'.row b) (h4:∀b,F.lp b=F'.lp b):F=F':=by
 cases F;cases F'
 simp only[Ua.mk.injEq]
 exact⟨funext h1,funext h2,funext h3,funext h4⟩
def Ua.put (F:Ua) (dst:Option Nat) (v:V):Ua:={F with tmp:=fun t=>if dst=some t then v else F.tmp t}
def Ua.new (F:Ua) (nid:Nat) (x:List C×Nat):Ua:={F with box:=fun b=>if b=nid then some x else F.box b}
def Ua.wr (F:Ua) (p:Nat×Nat×C):Ua:={F with box:=fun b=>if b=p.1 then(F.box b).map (fun x=>(x.1.set p.2.1 p.2.2,x.2)) else F.box b}
def Ua.wrs (F:Ua) (l:List (Nat×Nat×C)):Ua:=l.foldl Ua.wr F
def Ua.rw1 (F:Ua) (p:Nat×Option RowOb):Ua:={F with row:=fun b=>if b=p.1 then some p.2 else F.row b}
def Ua.rws (F:Ua) (l:List (Nat×Option RowOb)):Ua:=l.foldl Ua.rw1 F
def Ua.app (F:Ua) (dst:Option Nat) (nid:Nat) (eff:Eff):Ua:=
 ((match eff.al with | some x=>F.new nid x | none=>F.wrs eff.wr).rws (eff.re.rs nid)).put dst eff.val
def evF (F:Ua) (n:Nat):Operand->Option V
 | .tmp t=>if t<n then(match F.tmp t with | .top=>none | v=>some v) else none
 | .const v=>ofValue v
 | .global _=>none
 | .func f=>some (.one (.fn f))
def ldF (F:Ua) (b o:Nat):Option C:=(F.box b).bind fun x=>x.1[o]?
def rwF (F:Ua) (id:Nat):Option RowOb:=(F.row id).bind fun x=>x
structure Rf where
 ps:Array Tmp
 assign:Code
 body:Code
 tmps:Array Value
 l:Nat
structure Wb where
 w:World
 M:List Nat
 top:Bool
 rf:Option Rf
 hw:World->Prop
 hh:∀w',Ext w w'->hw w'
abbrev Wb.heap (b:Wb):Array Obj:=b.w.heap
def Wb.ds (b:Wb):List Deferred:=if b.top then b.M.map fun D=>{target:=.collected D,args:= #[]} else[]
def LS.st:LS->LoopState
 | .ready=>.ready
 | .busy=>.busy
 | .done=>.done
def Sig.code:Sig->Code
 | .normal=>.skip
 | .exit id=>.exit id
 | .ret=>.ret
structure LoopIs (rf:Rf) (y:Lp) (o:Loop):Prop where
 st:o.state=y.st.st
 pend:o.pending=y.pend.map Sig.code
 ps:o.params=rf.ps
 assign:o.assign=rf.assign
 body:o.body=rf.body
 tmps:o.tmps=rf.tmps
structure Frz (U:Env) (W0:Wb) (F:Ua) (j:J) (w:World):Prop where
 at':∀k o,j.g.z k=some o->w.heap[k]? =some o/\(isCl o=false->W0.heap.size<=k)
 box:∀k o b,j.g.z k=some o->j.b b≠some k
 row:∀k o id r s,j.g.z k=some o->F.row id=some (some r)->j.s id=some s->(r.own=true\/isCl o=false)->s.blk r.own≠some k
 md:∀D∈W0.M,j.g.z D=some (.deferred (some []))
 nd:W0.M.Nodup
 lp:∀id y,F.lp id=some y->∃rf o,W0.rf=some rf/\j.g.y id=some rf.l/\j.g.z rf.l=some (.loop o)/\LoopIs rf y o
 nol:∀id,F.row id=none->F.lp id=none->j.g.y id=none
 ev:∀id r s,F.row id=some (some r)->j.s id=some s->Zin j s
 tb:∀id r s,F.row id=some (some r)->r.kd=.tab->j.s id=some s->TbAt U j w s r
theorem Frz.lt {U:Env} {W0:Wb} {F:Ua} {j:J} {w:World} (h:Frz U W0 F j w) {k:Nat} {o:Obj} (hz:j.g.z k=some o):k<w.heap.size:=(ey.1 (h.at' k o hz).1).1
theorem Frz.step {U:Env} {W0:Wb} {F F':Ua} {j j':J} {w w':World} (h:Frz U W0 F j w) (hg:j'.g=j.g) (hl:F'.lp=F.lp) (hn:∀id,F'.row id=none->F.row id=none)
  (hh:∀k o,j.g.z k=some o->w'.heap[k]? =w.heap[k]?) (hb:∀b k,j'.b b=some k->j.b b=some k\/w.heap.size<=k)
  (hr:∀id r s,F'.row id=some (some r)->j'.s id=some s->(∃id0 r0 s0,F.row id0=some (some r0)/\j.s id0=some s0/\(r.own=true->r0.own=true)/\∀k,s.blk r.own=some k->s0.blk r0.own=some k\/w.heap.size<=k)\/(∀k,s.blk r.own=some k->w.heap.size<=k)) (hv:∀id r s,F'.row id=some (some r)->j'.s id=some s->Zin j s) (ht:∀id r s,F'.row id=some (some r)->r.kd=.tab->j'.s id=some s->TbAt U j' w' s r):Frz U W0 F' j' w' where
 at' k o hz:=by rw[hg] at hz;rw[hh k o hz];exact h.at' k o hz
 box k o b hz e:=by
  rw[hg] at hz
  rcases hb b k e with h1 | h1
  ·exact h.box k o b hz h1
  ·have:=h.lt hz;omega
 row k o id r s hz hF hs hc e:=by
  rw[hg] at hz
  have:=h.lt hz
  rcases hr id r s hF hs with⟨id0,r0,s0,h1,h2,h3,h4⟩ | h1
  ·rcases h4 k e with h4 | h4
   ·exact h.row k o id0 r0 s0 hz h1 h2 (hc.imp h3 _root_.id) h4
   ·omega
  ·have:=h1 k e;omega
 md D hD:=by rw[hg];exact h.md D hD
 nd:=h.nd
 lp id y hy:=by rw[hg];rw[hl] at hy;exact h.lp id y hy
 nol id hF hy:=by rw[hg];rw[hl] at hy;exact h.nol id (hn id hF) hy
 ev id r s hF hs:=fun p hp=>by rw[hg];exact hv id r s hF hs p hp
 tb:=ht
structure Rel (U:Env) (n:Nat) (X:List Value) (W0:Wb) (fb:Nat->Option (List C)) (F:Ua) (j:J) (a:Act) (w:World):Prop where
 defers:a.defers=W0.ds
 size:a.tmps.size=n
 tmp:∀t,t<n->∃v,a.tmps[t]? =some v/\(F.tmp t=.top\/(F.tmp t).den U j=some v)
 sav:∀(i:Nat) v,X[i]? =some v->F.tmp (n+i)=.top\/(F.tmp (n+i)).den U j=some v
 box:∀b cs ty,F.box b=some (cs,ty)->∃k vs,j.b b=some k/\W0.heap.size<=k/\denL U j cs=some vs/\w.heap[k]? =some (.cells vs.toArray ty (0,0))
 nob:∀b,F.box b=none->j.b b=none
 inj:∀b b' k,j.b b=some k->j.b b'=some k->b=b'
 row:∀b r,F.row b=some (some r)->∃s,j.s b=some s/\RowOk U W0.heap.size w s r
 nor:∀b,F.row b=none->j.s b=none
 sep:∀b b' k r s,j.b b=some k->F.row b'=some (some r)->j.s b'=some s->s.blk r.own≠some k
 rsep:∀b b' r r' s s' k,F.row b=some (some r)->r.own=true->F.row b'=some (some r')->j.s b=some s->j.s b'=some s'->s.blk r.own=some k->s'.blk r'.own=some k->b=b'
 fb:∀b cs,fb b=some cs->∃k vs,j.f b=some k/\k<W0.heap.size/\denL U j cs=some vs/\∀o v,vs[o]? =some v->fW cs o=true->w.cell? ⟨k,o,none⟩=some v
 ext:Ext W0.w w
 gs:Frz U W0 F j w
section
variable {P:Program} {U:Env} {n:Nat} {X:List Value} {W0:Wb} {fb:Nat->Option (List C)} {F:Ua} {j:J} {a:Act} {w:World}
theorem Rel.lt (h:Rel U n X W0 fb F j a w) {b k:Nat} (hb:j.b b=some k):∃cs ty vs,F.box b=some (cs,ty)/\W0.heap.size<=k/\denL U j cs=some vs/\w.heap[k]? =some (.cells vs.toArray ty (0,0))/\k<w.heap.size:=by
 cases hF:F.box b with
 | none=>rw[h.nob b hF] at hb;cases hb
 | some x=>
   obtain⟨cs,ty⟩:=x
   obtain⟨k',vs,h1,h2,h3,h4⟩:=h.box b cs ty hF
   rw[hb] at h1;cases h1
   refine⟨cs,ty,vs,rfl,h2,h3,h4,?_⟩
   rcases aV k w.heap.size with hlt | hge
   ·exact hlt
   ·rw[Array.getElem?_eq_none hge] at h4;cases h4
theorem hG {k o ty:Nat} {vs:List Value} (h:w.heap[k]? =some (.cells vs.toArray ty (0,0))):w.cell? ⟨k,o,none⟩=vs[o]? :=by
 simp[World.cell?,h]
theorem abw {k o ty:Nat} {vs:List Value} (h:w.heap[k]? =some (.cells vs.toArray ty (0,0))):w.frozen? ⟨k,o,none⟩=false:=by
 simp[World.frozen?,h]
theorem Rel.eval (h:Rel U n X W0 fb F j a w) {x:Operand} {v:V} (hx:evF F n x=some v):v.den U j=some (a.eval x):=by
 cases x with
 | tmp t=>
   simp only[evF] at hx
   split at hx
   ·rename_i ht
    split at hx
    ·cases hx
    ·rename_i hne
     cases hx
     obtain⟨u,h1,h2⟩:=h.tmp t ht
     rcases h2 with h2 | h2
     ·exact absurd h2 hne
     ·rw[h2]
      simp[Act.eval,eO,h1]
   ·cases hx
 | const v0=>exact abj hx U j
 | global g=>cases hx
 | func f=>cases hx;rfl
theorem Ext.grown' {w0 w w':World} {row:Option Nat} (h:Ext w0 w) (hg:w.grownBy w' row) (hr:∀k,row=some k->w0.heap.size<=k):Ext w0 w':=Below.grown h hg h.size hr
theorem Ext.block' {w0 w:World} (h:Ext w0 w) (k:Nat) (hk:k<w0.heap.size):w.heap[k]? =w0.heap[k]? :=h.block k hk
theorem zZ {w w':World} {base ty esz n:Nat} {s:SV} {xs:List Value} (h:w.ownsRow base ty esz s.v n xs) (hb:∀k,s.v.ownBlock=some k->w'.heap[k]? =w.heap[k]?):w'.ownsRow base ty esz s.v n xs:=by
 refine⟨h.1,?_⟩
 rcases h.2 with h' | ⟨g,cap,cur,hv,h1,h2,h3⟩
 ·exact .inl h'
 ·exact .inr ⟨g,cap,cur,hv,h1,by rw[hb g (by rw[hv];rfl)];exact h2,h3⟩
theorem SlOk.kept {base:Nat} {w w':World} {s:SV} {r:RowOb} (h:SlOk U base w s r) (hsz:w.heap.size<=w'.heap.size) (hb:∀k,s.blk r.own=some k->w'.heap[k]? =w.heap[k]?):SlOk U base w' s r:=
 ⟨h.n,h.rows,h.pos,fun k hk=>Nat.lt_of_lt_of_le (h.lt k hk) hsz,fun ho=>zZ (h.own ho) (by rw[ho] at hb;exact hb),h.rd.kept (fun k hk=>hb k (bo hk))⟩
theorem SlOk.base {b1 b2:Nat} {w:World} {s:SV} {r:RowOb} (h:SlOk U b1 w s r) (hb:b2<=b1):SlOk U b2 w s r:=
 ⟨h.n,h.rows,h.pos,h.lt,fun ho=>(h.own ho).mono hb,h.rd⟩
theorem EvOk.kept {base:Nat} {w w':World} {s:SV} {r:RowOb} (h:EvOk U base w s r) (hsz:w.heap.size<=w'.heap.size) (hb:∀k,s.blk r.own=some k->w'.heap[k]? =w.heap[k]?):EvOk U base w' s r:=by
 obtain⟨ins,h1,h2,h3,h4⟩:=h.at'
 exact⟨h.ks,h.n,h.rows,fun k hk=>Nat.lt_of_lt_of_le (h.lt k hk) hsz,h.zb,ins,h1,fun ho=>zZ (h2 ho) (by rw[ho] at hb;exact hb),h3.kept (fun k hk=>hb k (bo hk)),h4⟩
theorem RowOk.kept {base:Nat} {w w':World} {s:SV} {r:RowOb} (h:RowOk U base w s r) (hsz:w.heap.size<=w'.heap.size) (hb:∀k,s.blk r.own=some k->w'.heap[k]? =w.heap[k]?):RowOk U base w' s r:=by
 rcases h.cases with⟨hk,h⟩ | ⟨hk,h⟩ | ⟨hk,h⟩
 ·exact(h.kept hsz hb).row hk
 ·obtain⟨g,ob,h1,h2,h3,h4⟩:=h.at'
  exact HdOk.row ⟨h.own,h.rows,h.c,g,ob,h1,h2,by rw[hb g (h.blkAt h1 r.own)];exact h3,h4⟩ hk
 ·exact(h.kept hsz hb).row hk
theorem RowOk.base {b1 b2:Nat} {w:World} {s:SV} {r:RowOb} (h:RowOk U b1 w s r) (hb:b2<=b1):RowOk U b2 w s r:=by
 rcases h.cases with⟨hk,h⟩ | ⟨hk,h⟩ | ⟨hk,h⟩
 ·exact(h.base hb).row hk
 ·obtain⟨g,ob,h1,h2,h3,h4⟩:=h.at'
  exact HdOk.row ⟨h.own,h.rows,h.c,g,ob,h1,Nat.le_trans hb h2,h3,h4⟩ hk
 ·obtain⟨ins,h1,h2,h3,h4⟩:=h.at'
  exact EvOk.row ⟨h.ks,h.n,h.rows,h.lt,fun ho p hp=>Nat.le_trans hb (h.zb ho p hp),ins,h1,fun ho=>(h2 ho).mono hb,h3,h4⟩ hk
theorem Rel.tabBlk (h:Rel U n X W0 fb F j a w) {id g:Nat} {r:RowOb} {s:SV} (hF:F.row id=some (some r)) (hk:r.kd=.tab) (hs:j.s id=some s) (ha:s.a=some ⟨g,0,none⟩):s.blk r.own=some g/\g<w.heap.size:=by
 obtain⟨s0,h1,h2⟩:=h.row id r hF
 rw[hs] at h1;cases h1
 have h3:=h2.2.1 (by rw[hk];rfl)
 have h4:=h3.blkAt ha r.own
 exact⟨h4,h2.lt g h4⟩
theorem Rel.tabs (h:Rel U n X W0 fb F j a w) {j':J} {w':World} (hj:j'.s=j.s) (hg:j'.g=j.g) (hw:∀id r s g,F.row id=some (some r)->j.s id=some s->s.blk r.own=some g->w'.heap[g]? =w.heap[g]?):∀id r s,F.row id=some (some r)->r.kd=.tab->j'.s id=some s->TbAt U j' w' s r:=fun id r s h1 h2 h3=>
 (h.gs.tb id r s h1 h2 (by rw[<-hj];exact h3)).mono rfl rfl (fun k o _ hz=>by rw[hg];exact hz) (fun g ha=>hw id r s g h1 (by rw[<-hj];exact h3) (h.tabBlk h1 h2 (by rw[<-hj];exact h3) ha).1)
theorem Rel.kept (h:Rel U n X W0 fb F j a w) {w':World} (hx:Ext W0.w w') (hsz:w.heap.size<=w'.heap.size)
  (hb:∀b k,j.b b=some k->w'.heap[k]? =w.heap[k]?) (hr:∀b r s k,F.row b=some (some r)->j.s b=some s->s.blk r.own=some k->w'.heap[k]? =w.heap[k]?) (hz:∀k o,j.g.z k=some o->w'.heap[k]? =w.heap[k]?):Rel U n X W0 fb F j a w' where
 defers:=h.defers
 size:=h.size
 tmp:=h.tmp
 sav:=h.sav
 box b cs ty hF:=by
  obtain⟨k,vs,h1,h2,h3,h4⟩:=h.box b cs ty hF
  exact⟨k,vs,h1,h2,h3,by rw[hb b k h1];exact h4⟩
 nob:=h.nob
 inj:=h.inj
 row b r hF:=by
  obtain⟨s,h1,h2⟩:=h.row b r hF
  exact⟨s,h1,h2.kept hsz (fun k hk=>hr b r s k hF h1 hk)⟩
 nor:=h.nor
 sep:=h.sep
 rsep:=h.rsep
 fb b cs hF:=by
  obtain⟨k,vs,h1,h2,h3,h4⟩:=h.fb b cs hF
  refine⟨k,vs,h1,h2,h3,fun o v ho hs=> ?_⟩
  have h5:=h4 o v ho hs
  have e1:w'.heap[k]? =w.heap[k]? :=(hx.block k h2).trans (h.ext.block k h2).symm
  rw[World.cell?_of_block (a:=⟨k,o,none⟩) e1];exact h5
 ext:=hx
 gs:=h.gs.step rfl rfl (fun _ h=>h) hz (fun _ _ h=>.inl h) (fun id r s h1 h2=>.inl ⟨id,r,s,h1,h2,fun h=>h,fun _ h=>.inl h⟩) h.gs.ev (h.tabs rfl rfl hr)
theorem Rel.more (h:Rel U n X W0 fb F j a w) {w1:World} (hx:Ext w w1):Rel U n X W0 fb F j a w1:=
 h.kept (h.ext.trans hx) hx.size (fun b k hk=>by
  obtain⟨_,_,_,_,_,_,_,hlt⟩:=h.lt hk
  exact hx.block k hlt) (fun b r s k hF hs hk=>by
  obtain⟨s',h1,h2⟩:=h.row b r hF
  rw[hs] at h1;cases h1
  exact hx.block k (h2.lt k hk)) (fun k o hz=>hx.block k (h.gs.lt hz))
theorem Rel.put (h:Rel U n X W0 fb F j a w) {dst:Option Nat} {v:V} {u:Value} (hv:v.den U j=some u) (hd:∀d,dst=some d->d<n):Rel U n X W0 fb (F.put dst v) j (a.put dst u) w where
 defers:=by cases dst<;>simp[Act.put,h.defers]
 size:=by cases dst<;>simp[Act.put,h.size]
 tmp t ht:=by
  cases dst with
  | none=>simpa[Ua.put,Act.put] using h.tmp t ht
  | some d=>
    by_cases hdt:d=t
    ·subst hdt
     exact⟨u,by simp[Act.put,Array.getElem?_setIfInBounds,h.size,ht],.inr (by simp[Ua.put,hv])⟩
    ·obtain⟨x,h1,h2⟩:=h.tmp t ht
     exact⟨x,by simp[Act.put,Array.getElem?_setIfInBounds,hdt,h1],by simpa[Ua.put,hdt] using h2⟩
 sav i v hi:=by
  have:¬dst=some (n+i):=fun e=>by have:=hd _ e;omega
  simpa only[Ua.put,this,if_false] using h.sav i v hi
 box:=h.box
 nob:=h.nob
 inj:=h.inj
 row:=h.row
 nor:=h.nor
 sep:=h.sep
 rsep:=h.rsep
 fb:=h.fb
 ext:=h.ext
 gs:=h.gs.step rfl rfl (fun _ h=>h) (fun _ _ _=>rfl) (fun _ _ h=>.inl h) (fun id r s h1 h2=>.inl ⟨id,r,s,h1,h2,fun h=>h,fun _ h=>.inl h⟩) h.gs.ev h.gs.tb
theorem Rel.new (h:Rel U n X W0 fb F j a w) {nid ty:Nat} {cs:List C} {vs:List Value} (hd:denL U j cs=some vs) (hn:F.box nid=none):
  Rel U n X W0 fb (F.new nid (cs,ty)) {j with b:=fun b=>if b=nid then some w.heap.size else j.b b} a (w.alloc (.cells vs.toArray ty)):=by
 have hs:Sub j {j with b:=fun b=>if b=nid then some w.heap.size else j.b b}:=⟨fun b k hb=>by
  have:b≠nid:=fun e=>by rw[e,h.nob nid hn] at hb;cases hb
  simp[this,hb],fun _ _ hb=>hb,fun _ _ hb=>hb,fun _ _ hb=>hb⟩
 have h':=h.more ((Ext.refl w).alloc (.cells vs.toArray ty))
 refine⟨h.defers,h.size,fun t ht=> ?_,fun i v hi=>(h.sav i v hi).imp id (V.den_sub hs),fun b cs' ty' hF=> ?_,fun b hF=> ?_,fun b b' k h1 h2=> ?_,h'.row,h'.nor,fun b b' k r s h1 h2 h3 h4=> ?_,h'.rsep,fun b cs hF=> ?_,h'.ext,h.gs.step rfl rfl (fun _ h=>h) (fun k o hz=>((Ext.refl w).alloc (.cells vs.toArray ty)).block k (h.gs.lt hz)) (fun b k hb=> ?_) (fun id r s h1 h2=>.inl ⟨id,r,s,h1,h2,fun h=>h,fun _ h=>.inl h⟩) h.gs.ev (h.tabs (j':={j with b:=fun b=>if b=nid then some w.heap.size else j.b b}) rfl rfl (fun id r s g h1 h2 h3=>((Ext.refl w).alloc (.cells vs.toArray ty)).block g (by obtain⟨s',h5,h6⟩:=h.row id r h1;rw[h2] at h5;cases h5;exact h6.lt g h3)))⟩
 ·obtain⟨v,h1,h2⟩:=h.tmp t ht
  exact⟨v,h1,h2.imp id (V.den_sub hs)⟩
 ·by_cases hb:b=nid
  ·simp only[Ua.new,hb,if_true,bh,Prod.mk.injEq] at hF
   obtain⟨rfl,rfl⟩:=hF
   exact⟨w.heap.size,vs,by simp[hb],h.ext.size,aU hs hd,by exact heap_alloc_new _ _⟩
  ·simp only[Ua.new,hb,if_false] at hF
   obtain⟨k,us,h1,h2,h3,h4⟩:=h'.box b cs' ty' hF
   exact⟨k,us,by simp[hb,h1],h2,aU hs h3,h4⟩
 ·by_cases hb:b=nid
  ·simp[Ua.new,hb] at hF
  ·simp only[Ua.new,hb,if_false] at hF
   simp[hb,h.nob b hF]
 ·by_cases hb:b=nid<;>by_cases hb':b'=nid<;>simp only[hb,hb',if_true,if_false] at h1 h2
  ·rw[hb,hb']
  ·obtain⟨_,_,_,_,_,_,_,hlt⟩:=h.lt h2
   cases h1;omega
  ·obtain⟨_,_,_,_,_,_,_,hlt⟩:=h.lt h1
   cases h2;omega
  ·exact h.inj b b' k h1 h2
 ·by_cases hb:b=nid
  ·simp only[hb,if_true,bh] at h1
   obtain⟨s',h5,h6⟩:=h.row b' r h2
   rw[h3] at h5;cases h5
   have:=h6.lt k h4
   omega
  ·simp only[hb,if_false] at h1
   exact h.sep b b' k r s h1 h2 h3 h4
 ·obtain⟨k,us,h1,h2,h3,h4⟩:=h'.fb b cs hF
  exact⟨k,us,h1,h2,aU hs h3,h4⟩
 ·dsimp only at hb
  split at hb
  ·cases hb;exact .inr (Nat.le_refl _)
  ·exact .inl hb
theorem Rel.wr1 (h:Rel U n X W0 fb F j a w) {b o:Nat} {c:C} {k:Nat} {v:Value} (hk:j.b b=some k) (hv:c.den U j=some v):Rel U n X W0 fb (F.wr (b,o,c)) j a (w.setCell ⟨k,o,none⟩ v):=by
 obtain⟨cs,ty,vs,hF,hge,hd,hh,hlt⟩:=h.lt hk
 have other:∀k',k'≠k->(w.setCell ⟨k,o,none⟩ v).heap[k']? =w.heap[k']? :=fun k' hne=>heap_setCell_other w ⟨k,o,none⟩ k' v hne
 have hx:Ext W0.w (w.setCell ⟨k,o,none⟩ v):=h.ext.setCell hge v
 have hsz:w.heap.size<=(w.setCell ⟨k,o,none⟩ v).heap.size:=by simp[World.setCell]
 refine⟨h.defers,h.size,h.tmp,h.sav,fun b' cs' ty' hF'=> ?_,fun b' hF'=> ?_,h.inj,fun b' r hF'=> ?_,h.nor,h.sep,h.rsep,fun b' cs' hF'=> ?_,hx,h.gs.step rfl rfl (fun _ h=>h) (fun k' o' hz=>other k' (fun e=>h.gs.box k' o' b hz (e▸hk))) (fun _ _ h=>.inl h) (fun id r s h1 h2=>.inl ⟨id,r,s,h1,h2,fun h=>h,fun _ h=>.inl h⟩) h.gs.ev (h.tabs rfl rfl (fun id r s g h1 h2 h3=>other g (fun e=>h.sep b id k r s hk h1 h2 (e▸h3))))⟩
 ·by_cases hb:b'=b
  ·subst hb
   simp only[Ua.wr,if_true,hF,Option.map_some,bh,Prod.mk.injEq] at hF'
   obtain⟨rfl,rfl⟩:=hF'
   refine⟨k,vs.set o v,hk,hge,sK hd o c v hv,?_⟩
   have:=heap_setCell_same w k o vs.toArray ty v hh
   simpa using this
  ·simp only[Ua.wr,hb,if_false] at hF'
   obtain⟨k',us,h1,h2,h3,h4⟩:=h.box b' cs' ty' hF'
   exact⟨k',us,h1,h2,h3,by rw[other k' (fun e=>hb (h.inj b' b k (by rw[h1,e]) hk))];exact h4⟩
 ·by_cases hb:b'=b
  ·subst hb;simp[Ua.wr,hF] at hF'
  ·simp only[Ua.wr,hb,if_false] at hF'
   exact h.nob b' hF'
 ·obtain⟨s,h1,h2⟩:=h.row b' r hF'
  exact⟨s,h1,h2.kept hsz (fun k' hk'=>other k' (fun e=>h.sep b b' k r s hk hF' h1 (e▸hk')))⟩
 ·obtain⟨k',us,h1,h2,h3,h4⟩:=h.fb b' cs' hF'
  refine⟨k',us,h1,h2,h3,fun o' v' ho hs'=> ?_⟩
  rw[World.cell?_of_block (a:=⟨k',o',none⟩) (other k' (by omega))]
  exact h4 o' v' ho hs'
theorem Rel.wrs:∀{l:List (Nat×Nat×C)} {F:Ua} {w w':World},Rel U n X W0 fb F j a w->qg U j l w w'->Rel U n X W0 fb (F.wrs l) j a w'
 | [],F,w,w',h,hw=>by
   have e:w'=w:=hw
   subst e
   exact h
 | (b,o,c)::l,F,w,w',h,hw=>by
   obtain⟨k,v,hk,hv,hw'⟩:=hw
   exact Rel.wrs (F:=F.wr (b,o,c)) (h.wr1 hk hv) hw'
theorem Rel.turn (h:Rel U n X W0 fb F j a w) {w':World} {id:Nat} {q:RowOb} {s:SV} (hq:F.row id=some (some q)) (hown:q.own=true) (hs:j.s id=some s) (hg:w.grownBy w' s.v.ownBlock):
  Ext W0.w w'/\(∀b k,j.b b=some k->w'.heap[k]? =w.heap[k]?)/\(∀b r s' k,b≠id->F.row b=some (some r)->j.s b=some s'->s'.blk r.own=some k->w'.heap[k]? =w.heap[k]?)/\(∀k o,j.g.z k=some o->w'.heap[k]? =w.heap[k]?):=by
 obtain⟨s0,h1,h2⟩:=h.row id q hq
 rw[hs] at h1;cases h1
 refine⟨h.ext.grown' hg (fun k hk=>(h2.owned hown k hk).2),fun b k hb=> ?_,fun b r s' k hne hF hs' hk=> ?_,fun k o hz=>hg.block k (h.gs.lt hz) (fun e=>h.gs.row k o id q s hz hq hs (.inl hown) (by rw[hown];exact e.symm))⟩
 ·obtain⟨_,_,_,_,_,_,_,hlt⟩:=h.lt hb
  exact hg.block k hlt (fun e=>h.sep b id k q s hb hq hs (by rw[hown];exact e.symm))
 ·obtain⟨s1,h3,h4⟩:=h.row b r hF
  rw[hs'] at h3;cases h3
  exact hg.block k (h4.lt k hk) (fun e=>hne (h.rsep id b q r s s' k hq hown hF hs hs' (by rw[hown];exact e.symm) hk).symm)
end
section
variable {P:Program} {U:Env} {n:Nat} {X:List Value} {W0:Wb} {fb:Nat->Option (List C)} {F:Ua} {j:J} {a:Act} {w:World}
def ReOk (F:Ua) (nid:Nat):RE->Prop
 | .none=>True
 | .set id r=>(∃q,F.row id=some (some q)/\q.own=true)/\r.own=true
 | .mk rs=>∀i,i<rs.length->F.row (nid+i)=none
 | .app old r=>(∃q,F.row old=some (some q)/\q.own=true)/\r.own=true/\F.row nid=none/\nid≠old
 | .view old q r=>(∃q0,F.row old=some (some q0))/\q.own=false/\r.own=false/\F.row nid=none/\nid≠old
 | .peek r=>r.own=false/\F.row nid=none
 | .frz old q r=>(∃q0,F.row old=some (some q0)/\q0.own=true)/\q.own=false/\r.own=true/\F.row nid=none/\nid≠old
 | .tset old q tab r=>(∃q0,F.row old=some (some q0)/\q0.own=true)/\q.own=false/\(∃r0,F.row tab=some (some r0)/\r0.own=true)/\r.own=true/\tab≠old
theorem kg:∀(rs:List RowOb) (nid:Nat) (F:Ua) (b:Nat),(F.rws (mkRs nid rs)).row b=if nid<=b/\b<nid+rs.length then some rs[b-nid]? else F.row b
 | [],nid,F,b=>by simp[mkRs,Ua.rws];omega
 | r::rs,nid,F,b=>by
   show((F.rw1 (nid,some r)).rws (mkRs (nid+1) rs)).row b=_
   rw[kg rs (nid+1)]
   by_cases h1:nid+1<=b/\b<nid+1+rs.length
   ·rw[if_pos h1,if_pos (by simp;omega)]
    rw[show b-nid=(b-(nid+1))+1 by omega]
    rfl
   ·rw[if_neg h1]
    by_cases h2:b=nid
    ·subst h2
     rw[if_pos (by simp)]
     simp[Ua.rw1]
    ·rw[if_neg (by simp;omega)]
     simp[Ua.rw1,h2]
theorem aN:∀(l:List (Nat×Option RowOb)) (F:Ua),(F.rws l).box=F.box/\(F.rws l).tmp=F.tmp/\(F.rws l).lp=F.lp
 | [],_=>⟨rfl,rfl,rfl⟩
 | p::l,F=>aN l (F.rw1 p)
theorem Rel.set (h:Rel U n X W0 fb F j a w) {w':World} {id:Nat} {r:RowOb} {s:SV} (hr:ReOk F 0 (.set id r)) (hs:j.s id=some s) (hg:w.grownBy w' s.v.ownBlock) (hok:RowOk U W0.heap.size w' s r) (ht:r.kd=.tab->TbAt U j w' s r):Rel U n X W0 fb (F.rws (RE.rs 0 (.set id r))) j a w':=by
 obtain⟨⟨q,hq,hown⟩,hro⟩:=hr
 obtain⟨hx,hb,hother,hz⟩:=h.turn hq hown hs hg
 have back:∀b r',(F.rw1 (id,some r)).row b=some (some r')->∃q',F.row b=some (some q')/\r'.own=q'.own:=by
  intro b r' hF
  simp only[Ua.rw1] at hF
  split at hF
  ·rename_i hbid;subst hbid;simp only[bh] at hF;subst hF;exact⟨q,hq,by rw[hown];exact hro⟩
  ·exact⟨r',hF,rfl⟩
 show Rel U n X W0 fb (F.rw1 (id,some r)) j a w'
 refine⟨h.defers,h.size,h.tmp,h.sav,fun b cs ty hF=> ?_,h.nob,h.inj,fun b r' hF=> ?_,fun b hF=> ?_,fun b b' k r' s' h1 h2 h3=> ?_,fun b b' r1 r2 s1 s2 k h1 h2 h3 h4 h5=> ?_,fun b cs hF=> ?_,hx,h.gs.step rfl rfl (fun b hF=> ?_) hz (fun _ _ h=>.inl h) (fun b r' s' h1 h2=> ?_) (fun b r' s' h1 h2=> ?_) (fun b r' s' h1 hk h2=> ?_)⟩
 ·obtain⟨k,vs,h1,h2,h3,h4⟩:=h.box b cs ty hF
  exact⟨k,vs,h1,h2,h3,by rw[hb b k h1];exact h4⟩
 ·by_cases hbid:b=id
  ·subst hbid
   simp only[Ua.rw1,if_true,bh] at hF
   subst hF
   exact⟨s,hs,hok⟩
  ·simp only[Ua.rw1,hbid,if_false] at hF
   obtain⟨s',h1,h2⟩:=h.row b r' hF
   exact⟨s',h1,h2.kept hg.size (fun k hk=>hother b r' s' k hbid hF h1 hk)⟩
 ·simp only[Ua.rw1] at hF
  split at hF
  ·cases hF
  ·exact h.nor b hF
 ·obtain⟨q',hq',ho⟩:=back b' r' h2
  rw[ho]
  exact h.sep b b' k q' s' h1 hq' h3
 ·obtain⟨q1,hq1,ho⟩:=back b r1 h1
  obtain⟨q2,hq2,ho2⟩:=back b' r2 h3
  rw[ho,ho2]
  exact h.rsep b b' q1 q2 s1 s2 k hq1 (by rw[<-ho];exact h2) hq2 h4 h5
 ·obtain⟨k,vs,h1,h2,h3,h4⟩:=h.fb b cs hF
  refine⟨k,vs,h1,h2,h3,fun o v ho hs'=> ?_⟩
  rw[World.cell?_of_block (a:=⟨k,o,none⟩) ((hx.block' k h2).trans (h.ext.block' k h2).symm)]
  exact h4 o v ho hs'
 ·simp only[Ua.rw1] at hF
  split at hF
  ·cases hF
  ·exact hF
 ·obtain⟨q',h3,h4⟩:=back b r' h1
  exact .inl ⟨b,q',s',h3,h2,fun e=>by rw[<-h4];exact e,fun k hk=>.inl (by rw[<-h4];exact hk)⟩
 ·obtain⟨q',h3,h4⟩:=back b r' h1
  exact h.gs.ev b q' s' h3 h2
 ·by_cases hbid:b=id
  ·subst hbid
   simp only[Ua.rw1,if_true,bh] at h1
   subst h1
   rw[hs] at h2;cases h2
   exact ht hk
  ·simp only[Ua.rw1,hbid,if_false] at h1
   exact(h.gs.tb b r' s' h1 hk h2).mono rfl rfl (fun _ _ _ hz=>hz) (fun g ha=>hother b r' s' g hbid h1 h2 (h.tabBlk h1 hk h2 ha).1)
theorem se {j:J} {nid:Nat} {svs:List SV} {b:Nat}:(j.putL nid svs).s b=if nid<=b/\b<nid+svs.length then svs[b-nid]? else j.s b:=by
 simp only[J.putL]
 by_cases h1:nid<=b
 ·by_cases h2:b<nid+svs.length
  ·rw[if_pos h1,if_pos ⟨h1,h2⟩,thm6 (by omega)]
  ·rw[if_pos h1,if_neg (fun e=>h2 e.2),bB (by omega)]
 ·rw[if_neg h1,if_neg (fun e=>h1 e.1)]
theorem Rel.made (h:Rel U n X W0 fb F j a w) {w':World} {nid:Nat} {rs:List RowOb} {svs:List SV} (hr:ReOk F nid (.mk rs)) (hx:Ext w w') (hl:svs.length=rs.length)
  (hok:∀(i:Nat) u r,svs[i]? =some u->rs[i]? =some r->RowOk U w.heap.size w' u r/\r.own=true/\(r.kd=.tab->∀jj,TbAt U jj w' u r)) (hdis:∀(i i':Nat) u u' k,svs[i]? =some u->svs[i']? =some u'->u.v.ownBlock=some k->u'.v.ownBlock=some k->i=i') (hzi:∀u∈svs,NewZ w w' svs u):
  Rel U n X W0 fb (F.rws (mkRs nid rs)) ((j.putL nid svs).addzs (svs.flatMap (·.z))) a w':=by
 have h':=h.more hx
 have hn:∀b,nid<=b->b<nid+rs.length->j.s b=none:=fun b h1 h2=>h.nor b (by have:=hr (b-nid) (by omega);rwa [show nid+(b-nid)=b by omega] at this)
 have hs0:Sub j (j.putL nid svs):=⟨fun _ _ hb=>hb,fun b v hb=>by
  rw[se]
  split
  ·rename_i hin
   rw[hn b hin.1 (by omega)] at hb;cases hb
  ·exact hb,fun _ _ hb=>hb,fun _ _ hb=>hb⟩
 obtain⟨e1,e2,e3⟩:=aN (mkRs nid rs) F
 generalize hzs:svs.flatMap (·.z)=zs
 obtain⟨f1,f2,f3,f4⟩:=ag9 (j.putL nid svs) zs
 have hs:Sub j ((j.putL nid svs).addzs zs):=hs0.trans ⟨fun b k e=>by rw[f2];exact e,fun b k e=>by rw[f1];exact e,fun b k e=>by rw[f3];exact e,fun b k e=>by rw[f4];exact e⟩
 have newz:∀p∈zs,w'.heap[p.1]? =some p.2/\isCl p.2=true/\w.heap.size<=p.1/\∀u∈svs,u.v.ownBlock≠some p.1:=fun p hp=>by
  rw[<-hzs,List.mem_flatMap] at hp
  obtain⟨u,hu,hp⟩:=hp
  exact hzi u hu p hp
 have one:∀p∈zs,∀q∈zs,p.1=q.1->p.2=q.2:=fun p hp q hq e=>by
  have h1:=(newz p hp).1
  rw[e,(newz q hq).1] at h1
  exact(Option.some.inj h1).symm
 have zold:∀k o,j.g.z k=some o->∀p∈zs,p.1≠k:=fun k o hk p hp e=>by
  have:=h.gs.lt hk
  have:=(newz p hp).2.2.1
  omega
 have rows:∀b r,(F.rws (mkRs nid rs)).row b=some (some r)->(F.row b=some (some r)/\(j.putL nid svs).s b=j.s b/\¬(nid<=b/\b<nid+rs.length))\/∃i u,b=nid+i/\svs[i]? =some u/\rs[i]? =some r/\(j.putL nid svs).s b=some u:=by
  intro b r hF
  rw[kg] at hF
  rw[se,hl]
  split at hF
  ·rename_i hin
   right
   have hi:b-nid<svs.length:=by omega
   refine⟨b-nid,svs[b-nid],by omega,thm6 hi,by simpa using hF,?_⟩
   rw[if_pos hin,thm6 hi]
  ·rename_i hin
   exact .inl ⟨hF,by rw[if_neg hin],hin⟩
 have blk:∀(i:Nat) (u:SV) (r:RowOb),svs[i]? =some u->rs[i]? =some r->∀k,u.v.ownBlock=some k->w.heap.size<=k:=fun i u r h1 h2 k hk=>((hok i u r h1 h2).1.owned (hok i u r h1 h2).2.1 k hk).2
 refine⟨h'.defers,h'.size,fun t ht=> ?_,fun i v hi=>by rw[e2];exact(h'.sav i v hi).imp _root_.id (V.den_sub hs),fun b cs ty hF=> ?_,fun b hF=> ?_,fun b b' k h1 h2=> ?_,fun b r hF=> ?_,fun b hF=> ?_,fun b b' k r s h1 h2 h3 h4=> ?_,fun b b' r1 r2 s1 s2 k h1 h2 h3 h4 h5 h6 h7=> ?_,fun b cs hF=> ?_,h'.ext,⟨fun k o hk=> ?_,fun k o b hk e=> ?_,fun k o b r s hk hF hs1 hc e=> ?_,fun D hD=> ?_,h.gs.nd,fun i y hy=> ?_,fun i hF hy=> ?_,fun b r s h1 h2=> ?_,fun b r s h1 hk h2=> ?_⟩⟩
 ·rw[e2]
  obtain⟨v,h1,h2⟩:=h'.tmp t ht
  exact⟨v,h1,h2.imp _root_.id (V.den_sub hs)⟩
 ·rw[e1] at hF
  obtain⟨k,vs,h1,h2,h3,h4⟩:=h'.box b cs ty hF
  exact⟨k,vs,by rw[f2];exact h1,h2,aU hs h3,h4⟩
 ·rw[e1] at hF;rw[f2];exact h'.nob b hF
 ·rw[f2] at h1 h2;exact h'.inj b b' k h1 h2
 ·rw[f1]
  rcases rows b r hF with⟨h1,h2,_⟩ | ⟨i,u,rfl,h1,h2,h3⟩
  ·rw[h2];exact h'.row b r h1
  ·exact⟨u,h3,(hok i u r h1 h2).1.base h.ext.size⟩
 ·rw[kg] at hF
  rw[f1,se,hl]
  split at hF
  ·rename_i hin
   exfalso
   rw[thm6 (by omega)] at hF
   cases hF
  ·rename_i hin
   rw[if_neg hin]
   exact h.nor b hF
 ·rw[f2] at h1
  rw[f1] at h3
  have h1':j.b b=some k:=h1
  rcases rows b' r h2 with⟨g1,g2,_⟩ | ⟨i,u,rfl,g1,g2,g3⟩
  ·rw[g2] at h3
   exact h.sep b b' k r s h1' g1 h3 h4
  ·rw[g3] at h3;cases h3
   obtain⟨_,_,_,_,_,_,_,hlt⟩:=h.lt h1'
   have:=blk i _ r g1 g2 k (aJ h4)
   omega
 ·rw[f1] at h4 h5
  rcases rows b r1 h1 with⟨g1,g2,_⟩ | ⟨i,u,rfl,g1,g2,g3⟩
  ·rw[g2] at h4
   rcases rows b' r2 h3 with⟨q1,q2,_⟩ | ⟨i',u',rfl,q1,q2,q3⟩
   ·rw[q2] at h5
    exact h.rsep b b' r1 r2 s1 s2 k g1 h2 q1 h4 h5 h6 h7
   ·rw[q3] at h5;cases h5
    obtain⟨s0,p1,p2⟩:=h.row b r1 g1
    rw[h4] at p1;cases p1
    have:=p2.lt k h6
    have:=blk i' _ r2 q1 q2 k (aJ h7)
    omega
  ·rw[g3] at h4;cases h4
   rcases rows b' r2 h3 with⟨q1,q2,_⟩ | ⟨i',u',rfl,q1,q2,q3⟩
   ·rw[q2] at h5
    obtain⟨s0,p1,p2⟩:=h.row b' r2 q1
    rw[h5] at p1;cases p1
    have:=p2.lt k h7
    have:=blk i _ r1 g1 g2 k (aJ h6)
    omega
   ·rw[q3] at h5;cases h5
    rw[hdis i i' _ _ k g1 q1 (aJ h6) (aJ h7)]
 ·obtain⟨k,vs,h1,h2,h3,h4⟩:=h'.fb b cs hF
  exact⟨k,vs,by rw[f3];exact h1,h2,aU hs h3,h4⟩
 ·rcases oX hk with h1 | ⟨_,h1⟩
  ·obtain⟨z1,z2,z3,_⟩:=newz _ h1
   exact⟨z1,fun e=>by rw[z2] at e;cases e⟩
  ·exact h'.gs.at' k o h1
 ·rw[f2] at e
  rcases oX hk with h1 | ⟨_,h1⟩
  ·obtain⟨_,_,z3,_⟩:=newz _ h1
   obtain⟨_,_,_,_,_,_,_,hlt⟩:=h.lt (show j.b b=some k from e)
   simp only at z3
   omega
  ·exact h.gs.box k o b h1 e
 ·rw[f1] at hs1
  rcases oX hk with h1 | ⟨_,h1⟩
  ·obtain⟨_,_,z3,z4⟩:=newz _ h1
   rcases rows b r hF with⟨g1,g2,_⟩ | ⟨i,u,rfl,g1,g2,g3⟩
   ·rw[g2] at hs1
    obtain⟨s0,p1,p2⟩:=h.row b r g1
    rw[hs1] at p1;cases p1
    have:=p2.lt k e
    simp only at z3
    omega
   ·rw[g3] at hs1;cases hs1
    exact z4 _ (ez g1) (aJ e)
  ·have hlt:=h.gs.lt h1
   rcases rows b r hF with⟨g1,g2,_⟩ | ⟨i,u,rfl,g1,g2,g3⟩
   ·rw[g2] at hs1
    exact h.gs.row k o b r s h1 g1 hs1 hc e
   ·rw[g3] at hs1;cases hs1
    have:=blk i _ r g1 g2 k (aJ e)
    omega
 ·have h1:=h.gs.md D hD
  rw[fJ (zold D _ h1)]
  exact h1
 ·rw[e3] at hy
  obtain⟨rf,o,h1,h2,h3,h4⟩:=h.gs.lp i y hy
  exact⟨rf,o,h1,by rw[f4];exact h2,by rw[fJ (zold _ _ h3)];exact h3,h4⟩
 ·rw[f4]
  rw[e3] at hy
  refine h.gs.nol i ?_ hy
  rw[kg] at hF
  split at hF
  ·rename_i hin
   rw[thm6 (by omega)] at hF
   cases hF
  ·exact hF
 ·intro p hp
  rw[f1] at h2
  rcases rows b r h1 with⟨g1,g2,_⟩ | ⟨i,u,rfl,g1,g2,g3⟩
  ·rw[g2] at h2
   obtain⟨z1,z2⟩:=h.gs.ev b r s g1 h2 p hp
   exact⟨by rw[fJ (zold _ _ z1)];exact z1,z2⟩
  ·rw[g3] at h2;cases h2
   have hm:p∈zs:=by
    rw[<-hzs,List.mem_flatMap]
    exact⟨_,ez g1,hp⟩
   exact⟨ag8 one hm,(newz p hm).2.1⟩
 ·rw[f1] at h2
  rcases rows b r h1 with⟨g1,g2,_⟩ | ⟨i,u,rfl,g1,g2,g3⟩
  ·rw[g2] at h2
   exact(h.gs.tb b r s g1 hk h2).mono rfl rfl (fun k o _ hz=>by rw[fJ (zold k o hz)];exact hz) (fun g ha=>hx.block g (h.tabBlk g1 hk h2 ha).2)
  ·rw[g3] at h2;cases h2
   exact(hok i s r g1 g2).2.2 hk _
theorem Sub.putS {j:J} {nid:Nat} {s:SV} (h:j.s nid=none):Sub j (j.putS nid s):=⟨fun _ _ hb=>hb,fun b v hb=>by
 simp only[J.putS]
 split
 ·rename_i e;subst e;rw[h] at hb;cases hb
 ·exact hb,fun _ _ hb=>hb,fun _ _ hb=>hb⟩
theorem Rel.app (h:Rel U n X W0 fb F j a w) {w':World} {nid old:Nat} {r:RowOb} {s s':SV} (hr:ReOk F nid (.app old r)) (hs:j.s old=some s) (hg:w.grownBy w' s.v.ownBlock) (hok:RowOk U W0.heap.size w' s' r) (hblk:s'.v.ownBlock=s.v.ownBlock\/s'.v.ownBlock=some w.heap.size) (hzi:Zin j s') (hnt:r.kd≠.tab):
  Rel U n X W0 fb (F.rws (RE.rs nid (.app old r))) (j.putS nid s') a w':=by
 obtain⟨⟨q,hq,hown⟩,hro,hnid,hne⟩:=hr
 obtain⟨hx,hb,hother,hz⟩:=h.turn hq hown hs hg
 have hsub:Sub j (j.putS nid s'):=Sub.putS (h.nor nid hnid)
 have rows:∀b r',((F.rw1 (old,none)).rw1 (nid,some r)).row b=some (some r')->(b=nid/\r'=r)\/(b≠nid/\b≠old/\F.row b=some (some r')/\(j.putS nid s').s b=j.s b):=by
  intro b r' hF
  simp only[Ua.rw1] at hF
  split at hF
  ·rename_i e;exact .inl ⟨e,by simpa using hF.symm⟩
  ·rename_i e
   split at hF
   ·cases hF
   ·rename_i e';exact .inr ⟨e,e',hF,by simp[J.putS,e]⟩
 have snew:(j.putS nid s').s nid=some s':=by simp[J.putS]
 have sold:∀b,b≠nid->(j.putS nid s').s b=j.s b:=fun b e=>by simp[J.putS,e]
 show Rel U n X W0 fb ((F.rw1 (old,none)).rw1 (nid,some r)) (j.putS nid s') a w'
 refine⟨h.defers,h.size,fun t ht=> ?_,fun i v hi=>(h.sav i v hi).imp _root_.id (V.den_sub hsub),fun b cs ty hF=> ?_,h.nob,h.inj,fun b r' hF=> ?_,fun b hF=> ?_,fun b b' k r' s1 h1 h2 h3 h4=> ?_,fun b b' r1 r2 s1 s2 k h1 h2 h3 h4 h5 h6 h7=> ?_,fun b cs hF=> ?_,hx,h.gs.step rfl rfl (fun b hF=> ?_) hz (fun _ _ h=>.inl h) (fun b r' s1 h1 h2=> ?_) (fun b r' s1 h1 h2=> ?_) (fun b r' s1 h1 hk h2=> ?_)⟩
 ·obtain⟨v,h1,h2⟩:=h.tmp t ht
  exact⟨v,h1,h2.imp _root_.id (V.den_sub hsub)⟩
 ·obtain⟨k,vs,h1,h2,h3,h4⟩:=h.box b cs ty hF
  exact⟨k,vs,h1,h2,aU hsub h3,by rw[hb b k h1];exact h4⟩
 ·rcases rows b r' hF with⟨rfl,rfl⟩ | ⟨e1,e2,hF',hs'⟩
  ·exact⟨s',snew,hok⟩
  ·rw[hs']
   obtain⟨s1,h1,h2⟩:=h.row b r' hF'
   exact⟨s1,h1,h2.kept hg.size (fun k hk=>hother b r' s1 k e2 hF' h1 hk)⟩
 ·simp only[Ua.rw1] at hF
  split at hF
  ·cases hF
  ·rename_i e
   split at hF
   ·cases hF
   ·rw[sold b e];exact h.nor b hF
 ·have h1':j.b b=some k:=h1
  obtain⟨_,_,_,_,_,_,_,hlt⟩:=h.lt h1'
  rcases rows b' r' h2 with⟨rfl,rfl⟩ | ⟨e1,e2,hF',hs'⟩
  ·rw[snew] at h3;cases h3
   rcases hblk with e | e
   ·exact h.sep b old k q s h1' hq hs (ku hown (e▸aJ h4))
   ·have h4:=aJ h4;rw[e] at h4;cases h4;omega
  ·rw[hs'] at h3
   exact h.sep b b' k r' s1 h1' hF' h3 h4
 ·rcases rows b r1 h1 with⟨rfl,rfl⟩ | ⟨e1,e2,hF1,hs1⟩
  ·rcases rows b' r2 h3 with⟨rfl,_⟩ | ⟨e3,e4,hF2,hs2⟩
   ·rfl
   ·exfalso
    rw[snew] at h4;cases h4
    rw[hs2] at h5
    rcases hblk with e | e
    ·exact e4 (h.rsep old b' q r2 s s2 k hq hown hF2 hs h5 (ku hown (e▸aJ h6)) h7).symm
    ·obtain⟨s0,p1,p2⟩:=h.row b' r2 hF2
     rw[h5] at p1;cases p1
     have:=p2.lt k h7
     have h6:=aJ h6
     rw[e] at h6;cases h6;omega
  ·rw[hs1] at h4
   rcases rows b' r2 h3 with⟨rfl,_⟩ | ⟨e3,e4,hF2,hs2⟩
   ·exfalso
    rw[snew] at h5;cases h5
    rcases hblk with e | e
    ·exact e2 (h.rsep b old r1 q s1 s k hF1 h2 hq h4 hs h6 (ku hown (e▸aJ h7)))
    ·obtain⟨s0,p1,p2⟩:=h.row b r1 hF1
     rw[h4] at p1;cases p1
     have:=p2.lt k h6
     have h7:=aJ h7
     rw[e] at h7;cases h7;omega
   ·rw[hs2] at h5
    exact h.rsep b b' r1 r2 s1 s2 k hF1 h2 hF2 h4 h5 h6 h7
 ·obtain⟨k,vs,h1,h2,h3,h4⟩:=h.fb b cs hF
  refine⟨k,vs,h1,h2,aU hsub h3,fun o v ho hs'=> ?_⟩
  rw[World.cell?_of_block (a:=⟨k,o,none⟩) ((hx.block' k h2).trans (h.ext.block' k h2).symm)]
  exact h4 o v ho hs'
 ·simp only[Ua.rw1] at hF
  split at hF
  ·cases hF
  ·split at hF
   ·cases hF
   ·exact hF
 ·rcases rows b r' h1 with⟨rfl,rfl⟩ | ⟨e1,e2,hF',hs'⟩
  ·rw[snew] at h2;cases h2
   refine .inl ⟨old,q,s,hq,hs,fun _=>hown,fun k hk=> ?_⟩
   rcases hblk with e | e
   ·exact .inl (ku hown (e▸aJ hk))
   ·have:=aJ hk
    rw[e] at this;cases this
    exact .inr (Nat.le_refl _)
  ·rw[hs'] at h2
   exact .inl ⟨b,r',s1,hF',h2,fun h=>h,fun _ h=>.inl h⟩
 ·rcases rows b r' h1 with⟨rfl,rfl⟩ | ⟨e1,e2,hF',hs'⟩
  ·rw[snew] at h2;cases h2;exact hzi
  ·rw[hs'] at h2
   exact h.gs.ev b r' s1 hF' h2
 ·rcases rows b r' h1 with⟨rfl,rfl⟩ | ⟨e1,e2,hF',hs'⟩
  ·exact absurd hk hnt
  ·rw[hs'] at h2
   exact(h.gs.tb b r' s1 hF' hk h2).mono rfl rfl (fun _ _ _ hz=>hz) (fun g ha=>hother b r' s1 g e2 hF' h2 (h.tabBlk hF' hk h2 ha).1)
theorem Rel.view (h:Rel U n X W0 fb F j a w) {nid old:Nat} {q r:RowOb} {s s':SV} (hr:ReOk F nid (.view old q r)) (hs:j.s old=some s) (hq:RowOk U W0.heap.size w s q) (hok:RowOk U W0.heap.size w s' r) (hblk:∀k,s'.blk false=some k->s.blk false=some k) (hzi:Zin j s') (hq':q.kd≠.tab) (hnt:r.kd≠.tab):
  Rel U n X W0 fb (F.rws (RE.rs nid (.view old q r))) (j.putS nid s') a w:=by
 obtain⟨⟨q0,hq0⟩,hqo,hro,hnid,hne⟩:=hr
 have hsub:Sub j (j.putS nid s'):=Sub.putS (h.nor nid hnid)
 have rows:∀b r',((F.rw1 (old,some q)).rw1 (nid,some r)).row b=some (some r')->(b=nid/\r'=r)\/(b≠nid/\b=old/\r'=q)\/(b≠nid/\b≠old/\F.row b=some (some r')):=by
  intro b r' hF
  simp only[Ua.rw1] at hF
  split at hF
  ·rename_i e;exact .inl ⟨e,by simpa using hF.symm⟩
  ·rename_i e
   split at hF
   ·rename_i e';exact .inr (.inl ⟨e,e',by simpa using hF.symm⟩)
   ·rename_i e';exact .inr (.inr ⟨e,e',hF⟩)
 have snew:(j.putS nid s').s nid=some s':=by simp[J.putS]
 have sold:∀b,b≠nid->(j.putS nid s').s b=j.s b:=fun b e=>by simp[J.putS,e]
 show Rel U n X W0 fb ((F.rw1 (old,some q)).rw1 (nid,some r)) (j.putS nid s') a w
 refine⟨h.defers,h.size,fun t ht=> ?_,fun i v hi=>(h.sav i v hi).imp _root_.id (V.den_sub hsub),fun b cs ty hF=> ?_,h.nob,h.inj,fun b r' hF=> ?_,fun b hF=> ?_,fun b b' k r' s1 h1 h2 h3 h4=> ?_,fun b b' r1 r2 s1 s2 k h1 h2 h3 h4 h5 h6 h7=> ?_,fun b cs hF=> ?_,h.ext,h.gs.step rfl rfl (fun b hF=> ?_) (fun _ _ _=>rfl) (fun _ _ h=>.inl h) (fun b r' s1 h1 h2=> ?_) (fun b r' s1 h1 h2=> ?_) (fun b r' s1 h1 hk h2=> ?_)⟩
 ·obtain⟨v,h1,h2⟩:=h.tmp t ht
  exact⟨v,h1,h2.imp _root_.id (V.den_sub hsub)⟩
 ·obtain⟨k,vs,h1,h2,h3,h4⟩:=h.box b cs ty hF
  exact⟨k,vs,h1,h2,aU hsub h3,h4⟩
 ·rcases rows b r' hF with⟨rfl,rfl⟩ | ⟨e1,rfl,rfl⟩ | ⟨e1,e2,hF'⟩
  ·exact⟨s',snew,hok⟩
  ·exact⟨s,by rw[sold _ e1];exact hs,hq⟩
  ·rw[sold b e1];exact h.row b r' hF'
 ·simp only[Ua.rw1] at hF
  split at hF
  ·cases hF
  ·rename_i e
   split at hF
   ·cases hF
   ·rw[sold b e];exact h.nor b hF
 ·have h1':j.b b=some k:=h1
  rcases rows b' r' h2 with⟨rfl,rfl⟩ | ⟨e1,rfl,rfl⟩ | ⟨e1,e2,hF'⟩
  ·rw[snew] at h3;cases h3
   exact h.sep b old k q0 s h1' hq0 hs (bo (hblk k (by rw[hro] at h4;exact h4)))
  ·rw[sold _ e1,hs] at h3;cases h3
   exact h.sep b _ k q0 s h1' hq0 hs (bo (by rw[hqo] at h4;exact h4))
  ·rw[sold b' e1] at h3
   exact h.sep b b' k r' s1 h1' hF' h3 h4
 ·rcases rows b r1 h1 with⟨rfl,rfl⟩ | ⟨e1,rfl,rfl⟩ | ⟨e1,e2,hF1⟩
  ·rw[hro] at h2;cases h2
  ·rw[hqo] at h2;cases h2
  ·rw[sold b e1] at h4
   rcases rows b' r2 h3 with⟨rfl,rfl⟩ | ⟨e3,rfl,rfl⟩ | ⟨e3,e4,hF2⟩
   ·rw[snew] at h5;cases h5
    exact absurd (h.rsep b old r1 q0 s1 s k hF1 h2 hq0 h4 hs h6 (bo (hblk k (by rw[hro] at h7;exact h7)))) e2
   ·rw[sold _ e3,hs] at h5;cases h5
    exact h.rsep b _ r1 q0 s1 s k hF1 h2 hq0 h4 hs h6 (bo (by rw[hqo] at h7;exact h7))
   ·rw[sold b' e3] at h5
    exact h.rsep b b' r1 r2 s1 s2 k hF1 h2 hF2 h4 h5 h6 h7
 ·obtain⟨k,vs,h1,h2,h3,h4⟩:=h.fb b cs hF
  exact⟨k,vs,h1,h2,aU hsub h3,h4⟩
 ·simp only[Ua.rw1] at hF
  split at hF
  ·cases hF
  ·split at hF
   ·cases hF
   ·exact hF
 ·rcases rows b r' h1 with⟨rfl,rfl⟩ | ⟨e1,rfl,rfl⟩ | ⟨e1,e2,hF'⟩
  ·rw[snew] at h2;cases h2
   exact .inl ⟨old,q0,s,hq0,hs,fun e=>(by rw[hro] at e;cases e),fun k hk=>.inl (bo (hblk k (by rw[hro] at hk;exact hk)))⟩
  ·rw[sold _ e1,hs] at h2;cases h2
   exact .inl ⟨_,q0,s,hq0,hs,fun e=>(by rw[hqo] at e;cases e),fun k hk=>.inl (bo (by rw[hqo] at hk;exact hk))⟩
  ·rw[sold b e1] at h2
   exact .inl ⟨b,r',s1,hF',h2,fun h=>h,fun _ h=>.inl h⟩
 ·rcases rows b r' h1 with⟨rfl,rfl⟩ | ⟨e1,rfl,rfl⟩ | ⟨e1,e2,hF'⟩
  ·rw[snew] at h2;cases h2;exact hzi
  ·rw[sold _ e1,hs] at h2;cases h2
   exact h.gs.ev _ q0 _ hq0 hs
  ·rw[sold b e1] at h2
   exact h.gs.ev b r' s1 hF' h2
 ·rcases rows b r' h1 with⟨rfl,rfl⟩ | ⟨e1,rfl,rfl⟩ | ⟨e1,e2,hF'⟩
  ·exact absurd hk hnt
  ·exact absurd hk hq'
  ·rw[sold b e1] at h2
   exact(h.gs.tb b r' s1 hF' hk h2).mono rfl rfl (fun _ _ _ hz=>hz) (fun _ _=>rfl)
theorem yG (j:J) (l:Nat) (x:Option Obj):Sub j (j.setz l x):=⟨fun _ _ h=>h,fun _ _ h=>h,fun _ _ h=>h,fun _ _ h=>h⟩
theorem yH (j:J) (z:List (Nat×Obj)):Sub j (j.addz z):=by
 cases z with
 | nil=>exact .refl j
 | cons p z=>exact yG _ _ _
theorem aha (j:J) (z:List (Nat×Obj)):(j.addz z).s=j.s/\(j.addz z).b=j.b/\(j.addz z).f=j.f/\(j.addz z).g.y=j.g.y:=by cases z<;>exact⟨rfl,rfl,rfl,rfl⟩
theorem qf {j:J} {z:List (Nat×Obj)} (hl:z.length<=1) {k:Nat} {o:Obj} (h:(j.addz z).g.z k=some o):(k,o)∈z\/((∀p∈z,p.1≠k)/\j.g.z k=some o):=by
 match z,hl with
 | [],_=>exact .inr ⟨fun p hp=>(by cases hp),h⟩
 | [p],_=>
   simp only[J.addz,J.setz,Gh.setz] at h
   by_cases e:k=p.1
   ·rw[if_pos e] at h
    cases h
    exact .inl (by rw[e];exact bA)
   ·rw[if_neg e] at h
    exact .inr ⟨fun q hq=>by rw[dk.1 hq];exact fun h=>e h.symm,h⟩
theorem ajX {j:J} {z:List (Nat×Obj)} (hl:z.length<=1) {p:Nat×Obj} (hp:p∈z):(j.addz z).g.z p.1=some p.2:=by
 match z,hl with
 | [q],_=>rw[dk.1 hp];simp[J.addz,J.setz,Gh.setz]
theorem bN {j:J} {z:List (Nat×Obj)} (hl:z.length<=1) {k:Nat} (hk:∀p∈z,p.1≠k):(j.addz z).g.z k=j.g.z k:=by
 match z,hl with
 | [],_=>rfl
 | [q],_=>
   have:=hk q bA
   simp only[J.addz,J.setz,Gh.setz]
   rw[if_neg (fun e=>this e.symm)]
theorem Rel.frz (h:Rel U n X W0 fb F j a w) {w':World} {nid old:Nat} {q r:RowOb} {s s':SV} (hr:ReOk F nid (.frz old q r)) (hx:Ext w w') (hs:j.s old=some s) (hq:RowOk U W0.heap.size w s q) (hok:RowOk U W0.heap.size w' s' r) (hfr:∀k,s'.v.ownBlock=some k->w.heap.size<=k) (hl:s'.z.length<=1) (hz:∀p∈s'.z,w.heap[p.1]? =some p.2/\isCl p.2=true/\s.v.ownBlock=some p.1) (hq':q.kd≠.tab) (hnt:r.kd≠.tab):
  Rel U n X W0 fb (F.rws (RE.rs nid (.frz old q r))) ((j.putS nid s').addz s'.z) a w':=by
 obtain⟨⟨q0,hq0,hq0o⟩,hqo,hro,hnid,hne⟩:=hr
 have h':=h.more hx
 obtain⟨f1,f2,f3,f4⟩:=aha (j.putS nid s') s'.z
 have hsub:Sub j ((j.putS nid s').addz s'.z):=(Sub.putS (h.nor nid hnid)).trans (yH _ _)
 have rows:∀b r',((F.rw1 (old,some q)).rw1 (nid,some r)).row b=some (some r')->(b=nid/\r'=r)\/(b≠nid/\b=old/\r'=q)\/(b≠nid/\b≠old/\F.row b=some (some r')):=by
  intro b r' hF
  simp only[Ua.rw1] at hF
  split at hF
  ·rename_i e;exact .inl ⟨e,by simpa using hF.symm⟩
  ·rename_i e
   split at hF
   ·rename_i e';exact .inr (.inl ⟨e,e',by simpa using hF.symm⟩)
   ·rename_i e';exact .inr (.inr ⟨e,e',hF⟩)
 have snew:((j.putS nid s').addz s'.z).s nid=some s':=by rw[f1];simp[J.putS]
 have sold:∀b,b≠nid->((j.putS nid s').addz s'.z).s b=j.s b:=fun b e=>by rw[f1];simp[J.putS,e]
 obtain⟨s0,g1,g2⟩:=h.row old q0 hq0
 rw[hs] at g1;cases g1
 have fresh:∀k,s'.blk r.own=some k->w.heap.size<=k:=fun k hk=>hfr k (aJ hk)
 have zblk:∀p∈s'.z,s.blk q0.own=some p.1:=fun p hp=>ku hq0o (hz p hp).2.2
 have zold:∀k o,j.g.z k=some o->∀p∈s'.z,p.1≠k:=fun k o hk p hp e=>h.gs.row k o old q0 s hk hq0 hs (.inl hq0o) (by rw[<-e];exact zblk p hp)
 have rowlt:∀b r s k,F.row b=some (some r)->j.s b=some s->s.blk r.own=some k->k<w.heap.size:=fun b r s k hF hs hk=>by
  obtain⟨s',h1,h2⟩:=h.row b r hF
  rw[hs] at h1;cases h1
  exact h2.lt k hk
 show Rel U n X W0 fb ((F.rw1 (old,some q)).rw1 (nid,some r)) ((j.putS nid s').addz s'.z) a w'
 refine⟨h.defers,h.size,fun t ht=> ?_,fun i v hi=>(h.sav i v hi).imp _root_.id (V.den_sub hsub),fun b cs ty hF=> ?_,fun b hF=>by rw[f2];exact h.nob b hF,fun b b' k h1 h2=>by rw[f2] at h1 h2;exact h.inj b b' k h1 h2,fun b r' hF=> ?_,fun b hF=> ?_,fun b b' k r' s1 h1 h2 h3 h4=> ?_,fun b b' r1 r2 s1 s2 k h1 h2 h3 h4 h5 h6 h7=> ?_,fun b cs hF=> ?_,h'.ext,⟨fun k o hk=> ?_,fun k o b hk e=> ?_,fun k o b r' s1 hk hF hs1 hc e=> ?_,fun D hD=> ?_,h.gs.nd,fun i y hy=> ?_,fun i hF hy=> ?_,fun b r' s1 h1 h2=> ?_,fun b r' s1 h1 hk h2=> ?_⟩⟩
 ·obtain⟨v,h1,h2⟩:=h.tmp t ht
  exact⟨v,h1,h2.imp _root_.id (V.den_sub hsub)⟩
 ·obtain⟨k,vs,h1,h2,h3,h4⟩:=h'.box b cs ty hF
  exact⟨k,vs,by rw[f2];exact h1,h2,aU hsub h3,h4⟩
 ·rcases rows b r' hF with⟨rfl,rfl⟩ | ⟨e1,rfl,rfl⟩ | ⟨e1,e2,hF'⟩
  ·exact⟨s',snew,hok⟩
  ·refine⟨s,by rw[sold _ e1];exact hs,hq.kept hx.size (fun k hk=>hx.block k (hq.lt k hk))⟩
  ·rw[sold b e1];exact h'.row b r' hF'
 ·simp only[Ua.rw1] at hF
  split at hF
  ·cases hF
  ·rename_i e
   split at hF
   ·cases hF
   ·rw[sold b e];exact h.nor b hF
 ·rw[f2] at h1
  obtain⟨_,_,_,_,_,_,_,hlt⟩:=h.lt h1
  rcases rows b' r' h2 with⟨rfl,rfl⟩ | ⟨e1,rfl,rfl⟩ | ⟨e1,e2,hF'⟩
  ·rw[snew] at h3;cases h3
   have:=fresh k h4
   omega
  ·rw[sold _ e1,hs] at h3;cases h3
   exact h.sep b _ k q0 s h1 hq0 hs (bo (by rw[hqo] at h4;exact h4))
  ·rw[sold b' e1] at h3
   exact h.sep b b' k r' s1 h1 hF' h3 h4
 ·rcases rows b r1 h1 with⟨rfl,rfl⟩ | ⟨e1,rfl,rfl⟩ | ⟨e1,e2,hF1⟩
  ·rw[snew] at h4;cases h4
   have hk:=fresh k h6
   rcases rows b' r2 h3 with⟨rfl,rfl⟩ | ⟨e3,rfl,rfl⟩ | ⟨e3,e4,hF2⟩
   ·rfl
   ·rw[sold _ e3,hs] at h5;cases h5
    have:=hq.lt k h7
    omega
   ·rw[sold b' e3] at h5
    have:=rowlt b' r2 s2 k hF2 h5 h7
    omega
  ·rw[hqo] at h2;cases h2
  ·rw[sold b e1] at h4
   rcases rows b' r2 h3 with⟨rfl,rfl⟩ | ⟨e3,rfl,rfl⟩ | ⟨e3,e4,hF2⟩
   ·rw[snew] at h5;cases h5
    have:=fresh k h7
    have:=rowlt b r1 s1 k hF1 h4 h6
    omega
   ·rw[sold _ e3,hs] at h5;cases h5
    exact h.rsep b _ r1 q0 s1 s k hF1 h2 hq0 h4 hs h6 (bo (by rw[hqo] at h7;exact h7))
   ·rw[sold b' e3] at h5
    exact h.rsep b b' r1 r2 s1 s2 k hF1 h2 hF2 h4 h5 h6 h7
 ·obtain⟨k,vs,h1,h2,h3,h4⟩:=h'.fb b cs hF
  exact⟨k,vs,by rw[f3];exact h1,h2,aU hsub h3,h4⟩
 ·rcases qf hl hk with h1 | ⟨h1,h2⟩
  ·obtain⟨z1,z2,z3⟩:=hz _ h1
   have hlt:=(ey.1 z1).1
   exact⟨(hx.block k hlt).trans z1,fun _=>(g2.owned hq0o k z3).2⟩
  ·exact h'.gs.at' k o h2
 ·rw[f2] at e
  rcases qf hl hk with h1 | ⟨h1,h2⟩
  ·exact h.sep b old k q0 s e hq0 hs (zblk _ h1)
  ·exact h.gs.box k o b h2 e
 ·rcases qf hl hk with h1 | ⟨h1,h2⟩
  ·obtain⟨z1,z2,z3⟩:=hz _ h1
   have hown:r'.own=true:=by
    rcases hc with hc | hc
    ·exact hc
    ·rw[z2] at hc;cases hc
   have hlt:=(ey.1 z1).1
   rcases rows b r' hF with⟨rfl,rfl⟩ | ⟨e1,rfl,rfl⟩ | ⟨e1,e2,hF'⟩
   ·rw[snew] at hs1;cases hs1
    have:=fresh k e
    omega
   ·rw[hqo] at hown;cases hown
   ·rw[sold b e1] at hs1
    exact e2 (h.rsep old b q0 r' s s1 k hq0 hq0o hF' hs hs1 (zblk _ h1) e).symm
  ·have hlt:=h.gs.lt h2
   rcases rows b r' hF with⟨rfl,rfl⟩ | ⟨e1,rfl,rfl⟩ | ⟨e1,e2,hF'⟩
   ·rw[snew] at hs1;cases hs1
    have:=fresh k e
    omega
   ·rw[sold _ e1,hs] at hs1;cases hs1
    exact h.gs.row k o _ q0 s h2 hq0 hs (.inl hq0o) (bo (by rw[hqo] at e;exact e))
   ·rw[sold b e1] at hs1
    exact h.gs.row k o b r' s1 h2 hF' hs1 hc e
 ·have h1:=h.gs.md D hD
  rw[bN hl (zold D _ h1)]
  exact h1
 ·obtain⟨rf,o,h1,h2,h3,h4⟩:=h.gs.lp i y hy
  exact⟨rf,o,h1,by rw[f4];exact h2,by rw[bN hl (zold _ _ h3)];exact h3,h4⟩
 ·rw[f4]
  refine h.gs.nol i ?_ hy
  simp only[Ua.rw1] at hF
  split at hF
  ·cases hF
  ·split at hF
   ·cases hF
   ·exact hF
 ·intro p hp
  rcases rows b r' h1 with⟨rfl,rfl⟩ | ⟨e1,rfl,rfl⟩ | ⟨e1,e2,hF'⟩
  ·rw[snew] at h2;cases h2
   exact⟨ajX hl hp,(hz p hp).2.1⟩
  ·rw[sold _ e1,hs] at h2;cases h2
   obtain⟨z1,z2⟩:=h.gs.ev _ q0 s hq0 hs p hp
   exact⟨by rw[bN hl (zold _ _ z1)];exact z1,z2⟩
  ·rw[sold b e1] at h2
   obtain⟨z1,z2⟩:=h.gs.ev b r' s1 hF' h2 p hp
   exact⟨by rw[bN hl (zold _ _ z1)];exact z1,z2⟩
 ·rcases rows b r' h1 with⟨rfl,rfl⟩ | ⟨e1,rfl,rfl⟩ | ⟨e1,e2,hF'⟩
  ·exact absurd hk hnt
  ·exact absurd hk hq'
  ·rw[sold b e1] at h2
   exact(h.gs.tb b r' s1 hF' hk h2).mono rfl rfl (fun k o _ hz=>by rw[bN hl (zold k o hz)];exact hz) (fun g ha=>hx.block g (h.tabBlk hF' hk h2 ha).2)
theorem Rel.peek (h:Rel U n X W0 fb F j a w) {nid:Nat} {r:RowOb} {s':SV} (hr:ReOk F nid (.peek r)) (hok:RowOk U W0.heap.size w s' r) (hblk:∀k,s'.blk false=some k->∃o,j.g.z k=some o/\isCl o=true) (hz:s'.z=[]) (hnt:r.kd≠.tab):
  Rel U n X W0 fb (F.rws (RE.rs nid (.peek r))) (j.putS nid s') a w:=by
 obtain⟨hro,hnid⟩:=hr
 have hsub:Sub j (j.putS nid s'):=Sub.putS (h.nor nid hnid)
 have rows:∀b r',(F.rw1 (nid,some r)).row b=some (some r')->(b=nid/\r'=r)\/(b≠nid/\F.row b=some (some r')):=by
  intro b r' hF
  simp only[Ua.rw1] at hF
  split at hF
  ·rename_i e;exact .inl ⟨e,by simpa using hF.symm⟩
  ·rename_i e;exact .inr ⟨e,hF⟩
 have snew:(j.putS nid s').s nid=some s':=by simp[J.putS]
 have sold:∀b,b≠nid->(j.putS nid s').s b=j.s b:=fun b e=>by simp[J.putS,e]
 show Rel U n X W0 fb (F.rw1 (nid,some r)) (j.putS nid s') a w
 refine⟨h.defers,h.size,fun t ht=> ?_,fun i v hi=>(h.sav i v hi).imp _root_.id (V.den_sub hsub),fun b cs ty hF=> ?_,h.nob,h.inj,fun b r' hF=> ?_,fun b hF=> ?_,fun b b' k r' s1 h1 h2 h3 h4=> ?_,fun b b' r1 r2 s1 s2 k h1 h2 h3 h4 h5 h6 h7=> ?_,fun b cs hF=> ?_,h.ext,⟨h.gs.at',h.gs.box,fun k o b r' s1 hk hF hs1 hc e=> ?_,h.gs.md,h.gs.nd,h.gs.lp,fun i hF hy=> ?_,fun b r' s1 h1 h2=> ?_,fun b r' s1 h1 hk h2=> ?_⟩⟩
 ·obtain⟨v,h1,h2⟩:=h.tmp t ht
  exact⟨v,h1,h2.imp _root_.id (V.den_sub hsub)⟩
 ·obtain⟨k,vs,h1,h2,h3,h4⟩:=h.box b cs ty hF
  exact⟨k,vs,h1,h2,aU hsub h3,h4⟩
 ·rcases rows b r' hF with⟨rfl,rfl⟩ | ⟨e1,hF'⟩
  ·exact⟨s',snew,hok⟩
  ·rw[sold b e1];exact h.row b r' hF'
 ·simp only[Ua.rw1] at hF
  split at hF
  ·cases hF
  ·rename_i e;rw[sold b e];exact h.nor b hF
 ·have h1':j.b b=some k:=h1
  rcases rows b' r' h2 with⟨rfl,rfl⟩ | ⟨e1,hF'⟩
  ·rw[snew] at h3;cases h3
   rw[hro] at h4
   obtain⟨o,z1,_⟩:=hblk k h4
   exact h.gs.box k o b z1 h1'
  ·rw[sold b' e1] at h3
   exact h.sep b b' k r' s1 h1' hF' h3 h4
 ·rcases rows b r1 h1 with⟨rfl,rfl⟩ | ⟨e1,hF1⟩
  ·rw[hro] at h2;cases h2
  ·rw[sold b e1] at h4
   rcases rows b' r2 h3 with⟨rfl,rfl⟩ | ⟨e3,hF2⟩
   ·rw[snew] at h5;cases h5
    rw[hro] at h7
    obtain⟨o,z1,_⟩:=hblk k h7
    exact(h.gs.row k o b r1 s1 z1 hF1 h4 (.inl h2) h6).elim
   ·rw[sold b' e3] at h5
    exact h.rsep b b' r1 r2 s1 s2 k hF1 h2 hF2 h4 h5 h6 h7
 ·obtain⟨k,vs,h1,h2,h3,h4⟩:=h.fb b cs hF
  exact⟨k,vs,h1,h2,aU hsub h3,h4⟩
 ·rcases rows b r' hF with⟨rfl,rfl⟩ | ⟨e1,hF'⟩
  ·rw[snew] at hs1;cases hs1
   rw[hro] at hc e
   obtain⟨o',z1,z2⟩:=hblk k e
   rw[show(j.putS _ _).g.z=j.g.z from rfl,z1] at hk
   cases hk
   rcases hc with hc | hc
   ·cases hc
   ·rw[z2] at hc;cases hc
  ·rw[sold b e1] at hs1
   exact h.gs.row k o b r' s1 hk hF' hs1 hc e
 ·refine h.gs.nol i ?_ hy
  simp only[Ua.rw1] at hF
  split at hF
  ·cases hF
  ·exact hF
 ·rcases rows b r' h1 with⟨rfl,rfl⟩ | ⟨e1,hF'⟩
  ·rw[snew] at h2;cases h2;exact Zin.nil hz
  ·rw[sold b e1] at h2
   exact h.gs.ev b r' s1 hF' h2
 ·rcases rows b r' h1 with⟨rfl,rfl⟩ | ⟨e1,hF'⟩
  ·exact absurd hk hnt
  ·rw[sold b e1] at h2
   exact(h.gs.tb b r' s1 hF' hk h2).mono rfl rfl (fun _ _ _ hz=>hz) (fun _ _=>rfl)
theorem Rel.fix (h:Rel U n X W0 fb F j a w) {old k:Nat} {o:Obj} {q0 q:RowOb} {s:SV} (hq0:F.row old=some (some q0)) (hq0o:q0.own=true) (hqo:q.own=false) (hs:j.s old=some s) (hq:RowOk U W0.heap.size w s q) (hk:s.v.ownBlock=some k) (ho:w.heap[k]? =some o) (hcl:isCl o=true) (hq':q.kd≠.tab):
  Rel U n X W0 fb (F.rw1 (old,some q)) (j.addz [(k,o)]) a w:=by
 obtain⟨f1,f2,f3,f4⟩:=aha j [(k,o)]
 have hl:[(k,o)].length<=1:=Nat.le_refl _
 have hsub:Sub j (j.addz [(k,o)]):=yH _ _
 have rows:∀b r',(F.rw1 (old,some q)).row b=some (some r')->(b=old/\r'=q)\/(b≠old/\F.row b=some (some r')):=by
  intro b r' hF
  simp only[Ua.rw1] at hF
  split at hF
  ·rename_i e;exact .inl ⟨e,by simpa using hF.symm⟩
  ·rename_i e;exact .inr ⟨e,hF⟩
 obtain⟨s0,g1,g2⟩:=h.row old q0 hq0
 rw[hs] at g1;cases g1
 have zblk:s.blk q0.own=some k:=ku hq0o hk
 have zold:∀k' o',j.g.z k'=some o'->∀p∈[(k,o)],p.1≠k':=fun k' o' hk' p hp e=>h.gs.row k' o' old q0 s hk' hq0 hs (.inl hq0o) (by rw[dk.1 hp] at e;rw[<-e];exact zblk)
 refine⟨h.defers,h.size,fun t ht=> ?_,fun i v hi=>(h.sav i v hi).imp _root_.id (V.den_sub hsub),fun b cs ty hF=> ?_,fun b hF=>by rw[f2];exact h.nob b hF,fun b b' k h1 h2=>by rw[f2] at h1 h2;exact h.inj b b' k h1 h2,fun b r' hF=> ?_,fun b hF=> ?_,fun b b' k' r' s1 h1 h2 h3 h4=> ?_,fun b b' r1 r2 s1 s2 k' h1 h2 h3 h4 h5 h6 h7=> ?_,fun b cs hF=> ?_,h.ext,⟨fun k' o' hk'=> ?_,fun k' o' b hk' e=> ?_,fun k' o' b r' s1 hk' hF hs1 hc e=> ?_,fun D hD=> ?_,h.gs.nd,fun i y hy=> ?_,fun i hF hy=> ?_,fun b r' s1 h1 h2=> ?_,fun b r' s1 h1 hkt h2=> ?_⟩⟩
 ·obtain⟨v,h1,h2⟩:=h.tmp t ht
  exact⟨v,h1,h2.imp _root_.id (V.den_sub hsub)⟩
 ·obtain⟨k',vs,h1,h2,h3,h4⟩:=h.box b cs ty hF
  exact⟨k',vs,by rw[f2];exact h1,h2,aU hsub h3,h4⟩
 ·rw[f1]
  rcases rows b r' hF with⟨rfl,rfl⟩ | ⟨e1,hF'⟩
  ·exact⟨s,hs,hq⟩
  ·exact h.row b r' hF'
 ·rw[f1]
  simp only[Ua.rw1] at hF
  split at hF
  ·cases hF
  ·exact h.nor b hF
 ·rw[f2] at h1
  rw[f1] at h3
  rcases rows b' r' h2 with⟨rfl,rfl⟩ | ⟨e1,hF'⟩
  ·rw[hs] at h3;cases h3
   exact h.sep b _ k' q0 s h1 hq0 hs (bo (by rw[hqo] at h4;exact h4))
  ·exact h.sep b b' k' r' s1 h1 hF' h3 h4
 ·rw[f1] at h4 h5
  rcases rows b r1 h1 with⟨rfl,rfl⟩ | ⟨e1,hF1⟩
  ·rw[hqo] at h2;cases h2
  ·rcases rows b' r2 h3 with⟨rfl,rfl⟩ | ⟨e3,hF2⟩
   ·rw[hs] at h5;cases h5
    exact h.rsep b _ r1 q0 s1 s k' hF1 h2 hq0 h4 hs h6 (bo (by rw[hqo] at h7;exact h7))
   ·exact h.rsep b b' r1 r2 s1 s2 k' hF1 h2 hF2 h4 h5 h6 h7
 ·obtain⟨k',vs,h1,h2,h3,h4⟩:=h.fb b cs hF
  exact⟨k',vs,by rw[f3];exact h1,h2,aU hsub h3,h4⟩
 ·rcases qf hl hk' with h1 | ⟨h1,h2⟩
  ·cases dk.1 h1
   exact⟨ho,fun _=>(g2.owned hq0o k hk).2⟩
  ·exact h.gs.at' k' o' h2
 ·rw[f2] at e
  rcases qf hl hk' with h1 | ⟨h1,h2⟩
  ·cases dk.1 h1
   exact h.sep b old k q0 s e hq0 hs zblk
  ·exact h.gs.box k' o' b h2 e
 ·rw[f1] at hs1
  rcases qf hl hk' with h1 | ⟨h1,h2⟩
  ·cases dk.1 h1
   have hown:r'.own=true:=by
    rcases hc with hc | hc
    ·exact hc
    ·rw[hcl] at hc;cases hc
   rcases rows b r' hF with⟨rfl,rfl⟩ | ⟨e1,hF'⟩
   ·rw[hqo] at hown;cases hown
   ·exact e1 (h.rsep old b q0 r' s s1 k hq0 hq0o hF' hs hs1 zblk e).symm
  ·rcases rows b r' hF with⟨rfl,rfl⟩ | ⟨e1,hF'⟩
   ·rw[hs] at hs1;cases hs1
    exact h.gs.row k' o' _ q0 s h2 hq0 hs (.inl hq0o) (bo (by rw[hqo] at e;exact e))
   ·exact h.gs.row k' o' b r' s1 h2 hF' hs1 hc e
 ·have h1:=h.gs.md D hD
  rw[bN hl (zold D _ h1)]
  exact h1
 ·obtain⟨rf,o',h1,h2,h3,h4⟩:=h.gs.lp i y hy
  exact⟨rf,o',h1,by rw[f4];exact h2,by rw[bN hl (zold _ _ h3)];exact h3,h4⟩
 ·rw[f4]
  refine h.gs.nol i ?_ hy
  simp only[Ua.rw1] at hF
  split at hF
  ·cases hF
  ·exact hF
 ·intro p hp
  rw[f1] at h2
  rcases rows b r' h1 with⟨rfl,rfl⟩ | ⟨e1,hF'⟩
  ·rw[hs] at h2;cases h2
   obtain⟨z1,z2⟩:=h.gs.ev _ q0 s hq0 hs p hp
   exact⟨by rw[bN hl (zold _ _ z1)];exact z1,z2⟩
  ·obtain⟨z1,z2⟩:=h.gs.ev b r' s1 hF' h2 p hp
   exact⟨by rw[bN hl (zold _ _ z1)];exact z1,z2⟩
 ·rw[f1] at h2
  rcases rows b r' h1 with⟨rfl,rfl⟩ | ⟨e1,hF'⟩
  ·exact absurd hkt hq'
  ·exact(h.gs.tb b r' s1 hF' hkt h2).mono rfl rfl (fun k' o' _ hz=>by rw[bN hl (zold k' o' hz)];exact hz) (fun _ _=>rfl)
theorem Rel.tset (h:Rel U n X W0 fb F j a w) {w':World} {nid old tab k:Nat} {o:Obj} {q r:RowOb} {s st:SV} (hr:ReOk F nid (.tset old q tab r)) (hs:j.s old=some s) (hst:j.s tab=some st) (hq:RowOk U W0.heap.size w s q) (hok:RowOk U W0.heap.size w' st r) (hk:s.v.ownBlock=some k) (ho:w.heap[k]? =some o) (hcl:isCl o=true) (hg:w.grownBy w' st.v.ownBlock) (ht:TbAt U (j.addz [(k,o)]) w' st r) (hq':q.kd≠.tab):
  Rel U n X W0 fb (F.rws (RE.rs nid (.tset old q tab r))) (j.addz [(k,o)]) a w':=by
 obtain⟨⟨q0,hq0,hq0o⟩,hqo,⟨r0,hr0,hr0o⟩,hro,hne⟩:=hr
 have h1:=h.fix hq0 hq0o hqo hs hq hk ho hcl hq'
 exact h1.set (r:=r) ⟨⟨r0,by simp only[Ua.rw1,if_neg hne];exact hr0,hr0o⟩,hro⟩ (by rw[(aha j [(k,o)]).1];exact hst) hg hok (fun _=>ht)
structure Sees (n:Nat) (fb:Nat->Option (List C)) (vw:Vw) (o:Oper) (eff:Eff) (F:Ua):Prop where
 ev:∀x∈o.op.operands.toList,∀v,vw.ev x=some v->evF F n x=some v
 rd:∀p∈eff.rd,∀c,vw.ld p.1 p.2=some c->ldF F p.1 p.2=some c
 wr:∀p∈eff.wr,∃c,ldF F p.1 p.2.1=some c
 nw:eff.al≠none->F.box vw.nid=none
 rr:∀id∈eff.rr,∀r,vw.rw id=some r->rwF F id=some r
 re:ReOk F vw.nid eff.re
 fb:vw.fb=fb
 one:(eff.al=none/\eff.wr=[])\/eff.re=.none
theorem mm (h:Rel U n X W0 fb F j a w) {b o:Nat} {c:C} (hc:ldF F b o=some c):∃k v,j.b b=some k/\c.den U j=some v/\w.cell? ⟨k,o,none⟩=some v/\w.frozen? ⟨k,o,none⟩=false:=by
 simp only[ldF,bJ] at hc
 obtain⟨x,hx,hc⟩:=hc
 obtain⟨cs,ty⟩:=x
 obtain⟨k,vs,h1,h2,h3,h4⟩:=h.box b cs ty hx
 obtain⟨v,hv,hd⟩:=cq h3 o c hc
 exact⟨k,v,h1,hd,by rw[hG h4];exact hv,abw h4⟩
theorem fA {F:Ua} {id:Nat} {r:RowOb} (h:rwF F id=some r):F.row id=some (some r):=by
 unfold rwF at h
 cases hF:F.row id with
 | none=>rw[hF] at h;cases h
 | some x=>rw[hF] at h;simp only[Option.bind_some] at h;rw[h]
theorem an8 (h:Rel U n X W0 fb F j a w) {vw:Vw} {o:Oper} {eff:Eff} (hok:OpOk P W0.hw U W0.heap.size vw o eff) (hs:Sees n fb vw o eff F) (hd:∀d,o.dst=some d->d<n)
  {K:Act->World->Prop} {Q:Exit->Act->World->Prop} (hK:∀j' a' w',Rel U n X W0 fb (F.app o.dst vw.nid eff) j' a' w'->K a' w'):o.wp P a w K Q:=by
 refine hok j a w h.ext.size (fun x hx v hv=>h.eval (hs.ev x hx v hv)) (fun p hp c hc=> ?_) (fun p hp=> ?_) (fun id hid r hr=> ?_) ⟨W0.hh w h.ext,fun b cs hb=> ?_⟩ K Q (fun v j' w' hv hdoes=> ?_)
 ·obtain⟨k,v,h1,h2,h3,_⟩:=mm h (hs.rd p hp c hc)
  exact⟨k,v,h1,h2,h3⟩
 ·obtain⟨c,hc⟩:=hs.wr p hp
  obtain⟨k,v,h1,_,h3,h4⟩:=mm h hc
  exact⟨k,v,h1,h3,h4⟩
 ·obtain⟨s,h1,h2⟩:=h.row id r (fA (hs.rr id hid r hr))
  have hz:=h.gs.ev id r s (fA (hs.rr id hid r hr)) h1
  exact⟨s,h1,h2,hz,fun p hp=>(h.gs.at' _ _ (hz p hp).1).1,fun hk=>⟨h.gs.tb id r s (fA (hs.rr id hid r hr)) hk h1,fun k o hz=>(h.gs.at' k o hz).1⟩⟩
 ·rw[hs.fb] at hb
  obtain⟨k,vs,h1,h2,h3,h4⟩:=h.fb b cs hb
  exact⟨k,vs,h1,Nat.lt_of_lt_of_le h2 h.ext.size,h3,h4⟩
 ·unfold Does at hdoes
  refine hK j' _ w' ?_
  unfold Ua.app
  refine Rel.put ?_ hv hd
  split at hdoes
  ·rename_i cs ty hal
   obtain⟨vs,h1,rfl,rfl⟩:=hdoes
   have hre:eff.re=.none:=by
    rcases hs.one with e | e
    ·rw[hal] at e;cases e.1
    ·exact e
   rw[hal,hre]
   exact h.new h1 (hs.nw (by rw[hal];simp))
  ·rename_i hal
   rw[hal]
   have hre:=hs.re
   split at hdoes
   ·rename_i hr
    obtain⟨rfl,w1,h1,h2⟩:=hdoes
    rw[hr]
    exact(h.more h1).wrs h2
   ·rename_i id r hr
    have hwr:eff.wr=[]:=by
     rcases hs.one with e | e
     ·exact e.2
     ·rw[hr] at e;cases e
    obtain⟨rfl,s,h1,h2,h3,h4⟩:=hdoes
    rw[hr] at hre
    rw[hr,hwr]
    exact h.set hre h1 h2 h3 (fun e=>absurd e h4)
   ·rename_i rs hr
    have hwr:eff.wr=[]:=by
     rcases hs.one with e | e
     ·exact e.2
     ·rw[hr] at e;cases e
    obtain⟨hx,svs,h1,h2,h3,h4,rfl⟩:=hdoes
    rw[hr] at hre
    rw[hr,hwr]
    exact h.made hre hx h1 h2 h3 h4
   ·rename_i old r hr
    have hwr:eff.wr=[]:=by
     rcases hs.one with e | e
     ·exact e.2
     ·rw[hr] at e;cases e
    obtain⟨s,s',h1,h2,h3,h4,h5,rfl,h6⟩:=hdoes
    rw[hr] at hre
    rw[hr,hwr]
    exact h.app hre h1 h2 h3 h4 h5 h6
   ·rename_i old q r hr
    have hwr:eff.wr=[]:=by
     rcases hs.one with e | e
     ·exact e.2
     ·rw[hr] at e;cases e
    obtain⟨rfl,s,s',h1,h2,h3,h4,h5,rfl,h6,h7⟩:=hdoes
    rw[hr] at hre
    rw[hr,hwr]
    exact h.view hre h1 h2 h3 h4 h5 h6 h7
   ·rename_i r hr
    have hwr:eff.wr=[]:=by
     rcases hs.one with e | e
     ·exact e.2
     ·rw[hr] at e;cases e
    obtain⟨rfl,s',h1,h2,h3,rfl,h4⟩:=hdoes
    rw[hr] at hre
    rw[hr,hwr]
    exact h.peek hre h1 h2 h3 h4
   ·rename_i old q r hr
    have hwr:eff.wr=[]:=by
     rcases hs.one with e | e
     ·exact e.2
     ·rw[hr] at e;cases e
    obtain⟨hx,s,s',h1,h2,h3,h4,h5,h6,rfl,h7,h8⟩:=hdoes
    rw[hr] at hre
    rw[hr,hwr]
    exact h.frz hre hx h1 h2 h3 h4 h5 h6 h7 h8
   ·rename_i old q tab r hr
    have hwr:eff.wr=[]:=by
     rcases hs.one with e | e
     ·exact e.2
     ·rw[hr] at e;cases e
    obtain⟨s,st,k,o,h1,h2,h3,h4,h5,h6,h7,h8,rfl,h9,h10⟩:=hdoes
    rw[hr] at hre
    rw[hr,hwr]
    exact h.tset hre h1 h2 h3 h4 h5 h6 h7 h8 h9 h10
end
open Go
section
variable {P:Program} {U:Env} {n:Nat} {X:List Value} {W0:Wb} {fb:Nat->Option (List C)} {F:Ua} {j:J} {a:Act} {w:World}
def Ua.setl (F:Ua) (id:Nat) (x:Option Lp):Ua:={F with lp:=fun b=>if b=id then x else F.lp b}
def Ua.endl (F:Ua) (id:Nat):Ua:={F with lp:=fun b=>if b=id then none else F.lp b,row:=fun b=>if b=id then some none else F.row b}
theorem agt (w:World) (l:Nat) (o:Obj):w.grownBy (w.putObj l o) (some l):=⟨rfl,rfl,rfl,by simp,fun k _ hk=>World.putObj_heap_other (fun e=>hk (by rw[e]))⟩
theorem Rel.putz (h:Rel U n X W0 fb F j a w) {l:Nat} {o:Obj} (hz:j.g.z l=some o) (ho:isCl o=false) (o':Obj) (x:Option Obj) {F':Ua} {rf:Option Rf} (ht:F'.tmp=F.tmp) (hbx:F'.box=F.box) (hrw:∀b r,F'.row b=some (some r)->F.row b=some (some r)) (hrn:∀b,F'.row b=none->F.row b=none)
  {M:List Nat} {top:Bool} (hds:a.defers=({W0 with M:=M,top:=top,rf:=rf}:Wb).ds) (hM:∀D∈M,D∈W0.M/\D≠l) (hnd:M.Nodup) (hx:∀y,x=some y->y=o')
  (hlp:∀id y,F'.lp id=some y->∃r o,rf=some r/\j.g.y id=some r.l/\(j.setz l x).g.z r.l=some (.loop o)/\LoopIs r y o) (hnol:∀id,F'.row id=none->F'.lp id=none->j.g.y id=none):
  Rel U n X {W0 with M:=M,top:=top,rf:=rf} fb F' (j.setz l x) a (w.putObj l o'):=by
 have hs:=yG j l x
 obtain⟨hl1,hl0⟩:=h.gs.at' l o hz
 have hl2:=hl0 ho
 have hlt:=h.gs.lt hz
 have other:∀k,k≠l->(w.putObj l o').heap[k]? =w.heap[k]? :=fun k hk=>World.putObj_heap_other hk
 have hext:Ext W0.w (w.putObj l o'):=h.ext.grown' (agt w l o') (fun k hk=>by cases hk;exact hl2)
 refine⟨hds,h.size,fun t ht'=> ?_,fun i v hi=> ?_,fun b cs ty hF=> ?_,fun b hF=> ?_,h.inj,fun b r hF=> ?_,fun b hF=>h.nor b (hrn b hF),fun b b' k r s h1 h2 h3=>h.sep b b' k r s h1 (hrw b' r h2) h3,fun b b' r r' s s' k h1 h2 h3=>h.rsep b b' r r' s s' k (hrw b r h1) h2 (hrw b' r' h3),fun b cs hF=> ?_,hext,⟨fun k o1 hk=> ?_,fun k o1 b hk=> ?_,fun k o1 id r s hk hF hs' hc=> ?_,fun D hD=> ?_,hnd,hlp,hnol,fun id r s hF hs' p hp=> ?_,fun id r s hF hk hs'=> ?_⟩⟩
 ·obtain⟨v,h1,h2⟩:=h.tmp t ht'
  exact⟨v,h1,by rw[ht];exact h2.imp id (V.den_sub hs)⟩
 ·rw[ht];exact(h.sav i v hi).imp id (V.den_sub hs)
 ·rw[hbx] at hF
  obtain⟨k,vs,h1,h2,h3,h4⟩:=h.box b cs ty hF
  exact⟨k,vs,h1,h2,aU hs h3,by rw[other k (fun e=>h.gs.box l o b hz (e▸h1))];exact h4⟩
 ·rw[hbx] at hF;exact h.nob b hF
 ·obtain⟨s,h1,h2⟩:=h.row b r (hrw b r hF)
  exact⟨s,h1,h2.kept (by simp) (fun k hk=>other k (fun e=>h.gs.row l o b r s hz (hrw b r hF) h1 (.inr ho) (e▸hk)))⟩
 ·obtain⟨k,vs,h1,h2,h3,h4⟩:=h.fb b cs hF
  refine⟨k,vs,h1,h2,aU hs h3,fun o1 v ho1 hs1=> ?_⟩
  rw[World.cell?_of_block (a:=⟨k,o1,none⟩) (other k (by have:k<W0.heap.size:=h2;omega))]
  exact h4 o1 v ho1 hs1
 ·simp only[J.setz,Gh.setz] at hk
  by_cases e:k=l
  ·subst e
   rw[if_pos rfl] at hk
   rw[hx o1 hk]
   exact⟨World.putObj_heap_same hlt,fun _=>hl2⟩
  ·rw[if_neg e] at hk
   rw[other k e]
   exact h.gs.at' k o1 hk
 ·simp only[J.setz,Gh.setz] at hk
  by_cases e:k=l
  ·subst e;exact h.gs.box k o b hz
  ·rw[if_neg e] at hk;exact h.gs.box k o1 b hk
 ·simp only[J.setz,Gh.setz] at hk
  by_cases e:k=l
  ·subst e;exact h.gs.row k o id r s hz (hrw id r hF) hs' (.inr ho)
  ·rw[if_neg e] at hk;exact h.gs.row k o1 id r s hk (hrw id r hF) hs' hc
 ·obtain⟨h1,h2⟩:=hM D hD
  show(if D=l then x else j.g.z D)=_
  rw[if_neg h2]
  exact h.gs.md D h1
 ·obtain⟨h1,h2⟩:=h.gs.ev id r s (hrw id r hF) hs' p hp
  refine⟨?_,h2⟩
  show(if p.1=l then x else j.g.z p.1)=_
  rw[if_neg (fun e=>by rw[e,hz] at h1;cases h1;rw[ho] at h2;cases h2)]
  exact h1
 ·refine(h.gs.tb id r s (hrw id r hF) hk hs').mono rfl rfl (fun k o1 hc hk1=> ?_) (fun g ha=>other g (fun e=>h.gs.row l o id r s hz (hrw id r hF) hs' (.inr ho) (e▸(h.tabBlk (hrw id r hF) hk hs' ha).1)))
  show(if k=l then x else j.g.z k)=_
  rw[if_neg (fun e=>by rw[e,hz] at hk1;cases hk1;rw[ho] at hc;cases hc)]
  exact hk1
theorem Rel.lpZ (h:Rel U n X W0 fb F j a w) {id:Nat} {y:Lp} (hy:F.lp id=some y):∃rf o,W0.rf=some rf/\j.g.y id=some rf.l/\j.g.z rf.l=some (.loop o)/\w.heap[rf.l]? =some (.loop o)/\LoopIs rf y o/\rf.l ∉ W0.M:=by
 obtain⟨rf,o,h1,h2,h3,h4⟩:=h.gs.lp id y hy
 refine⟨rf,o,h1,h2,h3,(h.gs.at' _ _ h3).1,h4,fun hm=> ?_⟩
 have:=h.gs.md _ hm
 rw[h3] at this
 cases this
theorem Rel.loopSet (h:Rel U n X W0 fb F j a w) {id:Nat} {y:Lp} (hy:F.lp id=some y) (hone:∀i yi,F.lp i=some yi->i=id) {rf:Rf} {o:Loop} (hrf:W0.rf=some rf) (h2:j.g.y id=some rf.l) (hz:j.g.z rf.l=some (.loop o)) {y':Lp} {o':Loop} (hi:LoopIs rf y' o'):
  Rel U n X W0 fb (F.setl id (some y')) (j.setz rf.l (some (.loop o'))) a (w.putObj rf.l (.loop o')):=by
 have hm:rf.l ∉ W0.M:=fun hm=>by
  have:=h.gs.md _ hm
  rw[hz] at this
  cases this
 refine h.putz (F':=F.setl id (some y')) (M:=W0.M) (top:=W0.top) (rf:=W0.rf) hz rfl (.loop o') (some (.loop o')) rfl rfl (fun _ _ h=>h) (fun _ h=>h) h.defers (fun D hD=>⟨hD,fun e=>hm (e▸hD)⟩) h.gs.nd (fun y e=>(Option.some.inj e).symm) (fun i yi hyi=> ?_) (fun i hF hl=> ?_)
 ·simp only[Ua.setl] at hyi
  by_cases e:i=id
  ·rw[if_pos e] at hyi
   cases hyi
   refine⟨rf,o',hrf,by rw[e];exact h2,by simp[J.setz,Gh.setz],hi⟩
  ·rw[if_neg e] at hyi
   exact absurd (hone i yi hyi) e
 ·simp only[Ua.setl] at hl
  by_cases e:i=id
  ·rw[if_pos e] at hl;cases hl
  ·rw[if_neg e] at hl
   exact h.gs.nol i hF hl
theorem Rel.loopEnd (h:Rel U n X W0 fb F j a w) {id:Nat} {y:Lp} (hy:F.lp id=some y) (hone:∀i yi,F.lp i=some yi->i=id) {rf:Rf} {o:Loop} (hz:j.g.z rf.l=some (.loop o)) (o':Obj):
  Rel U n X {W0 with rf:=none} fb (F.endl id) (j.setz rf.l none) a (w.putObj rf.l o'):=by
 have hm:rf.l ∉ W0.M:=fun hm=>by
  have:=h.gs.md _ hm
  rw[hz] at this
  cases this
 refine h.putz (F':=F.endl id) (M:=W0.M) (top:=W0.top) (rf:=none) hz rfl o' none rfl rfl (fun b r hb=> ?_) (fun b hb=> ?_) h.defers (fun D hD=>⟨hD,fun e=>hm (e▸hD)⟩) h.gs.nd (fun y e=>by cases e) (fun i yi hyi=> ?_) (fun i hF hl=> ?_)
 ·simp only[Ua.endl] at hb
  split at hb
  ·cases hb
  ·exact hb
 ·simp only[Ua.endl] at hb
  split at hb
  ·cases hb
  ·exact hb
 ·simp only[Ua.endl] at hyi
  split at hyi
  ·cases hyi
  ·rename_i e;exact absurd (hone i yi hyi) e
 ·simp only[Ua.endl] at hF hl
  split at hF
  ·cases hF
  ·rename_i e
   rw[if_neg e] at hl
   exact h.gs.nol i hF hl
theorem Rel.loopNew (h:Rel U n X W0 fb F j a w) {id:Nat} (hrow:F.row id=none) (hlp:F.lp id=none) (hrf:W0.rf=none) (htop:W0.top=true) {rf:Rf} {o:Loop} (hl:rf.l=w.heap.size+1) (hi:LoopIs rf ⟨.ready,none⟩ o):
  Rel U n X {W0 with M:=w.heap.size::W0.M,rf:=some rf} fb (F.setl id (some ⟨.ready,none⟩)) {j with g:=⟨fun b=>if b=id then some rf.l else j.g.y b,fun k=>if k=rf.l then some (.loop o) else if k=w.heap.size then some (.deferred (some [])) else j.g.z k⟩}
   {a with defers:={target:=.collected w.heap.size,args:= #[]}::a.defers} ((w.alloc (.deferred (some []))).alloc (.loop o)):=by
 have x1:Ext w (w.alloc (.deferred (some []))):=(Ext.refl w).alloc _
 have x2:Ext (w.alloc (.deferred (some []))) ((w.alloc (.deferred (some []))).alloc (.loop o)):=(Ext.refl _).alloc _
 have h':=(h.more x1).more x2
 have sz1:(w.alloc (.deferred (some []))).heap.size=w.heap.size+1:=World.size_alloc _ _
 have nol:=h.gs.nol id hrow hlp
 have hs:Sub j {j with g:=⟨fun b=>if b=id then some rf.l else j.g.y b,fun k=>if k=rf.l then some (.loop o) else if k=w.heap.size then some (.deferred (some [])) else j.g.z k⟩}:=⟨fun _ _ h=>h,fun _ _ h=>h,fun _ _ h=>h,fun b k hb=>by
  show(if b=id then some rf.l else j.g.y b)=some k
  by_cases e:b=id
  ·subst e;rw[nol] at hb;cases hb
  ·rw[if_neg e];exact hb⟩
 have hL:((w.alloc (.deferred (some []))).alloc (.loop o)).heap[w.heap.size+1]? =some (.loop o):=by
  have:=World.alloc_heap_new (w.alloc (.deferred (some []))) (.loop o)
  rwa [sz1] at this
 have hD:((w.alloc (.deferred (some []))).alloc (.loop o)).heap[w.heap.size]? =some (.deferred (some [])):=(x2.block _ (by rw[sz1];omega)).trans (World.alloc_heap_new w _)
 have hbase:=h.ext.size
 have boxlt:∀b k,j.b b=some k->k<w.heap.size:=fun b k hb=>by obtain⟨_,_,_,_,_,_,_,hlt⟩:=h.lt hb;exact hlt
 have rowlt:∀b r s k,F.row b=some (some r)->j.s b=some s->s.blk r.own=some k->k<w.heap.size:=fun b r s k hF hs hk=>by
  obtain⟨s',h1,h2⟩:=h.row b r hF
  rw[hs] at h1;cases h1
  exact h2.lt k hk
 have zcase:∀k o1,(if k=rf.l then some (.loop o) else if k=w.heap.size then some (.deferred (some [])) else j.g.z k)=some o1->(k=w.heap.size+1/\o1=.loop o)\/(k=w.heap.size/\o1=.deferred (some []))\/(k<w.heap.size/\j.g.z k=some o1):=by
  intro k o1 hk
  by_cases e:k=rf.l
  ·rw[if_pos e] at hk
   exact .inl ⟨e.trans hl,(Option.some.inj hk).symm⟩
  ·rw[if_neg e] at hk
   by_cases e2:k=w.heap.size
   ·rw[if_pos e2] at hk
    exact .inr (.inl ⟨e2,(Option.some.inj hk).symm⟩)
   ·rw[if_neg e2] at hk
    exact .inr (.inr ⟨h.gs.lt hk,hk⟩)
 refine⟨by simp only[h.defers,Wb.ds,htop,if_true,List.map_cons],h.size,fun t ht=> ?_,fun i v hi'=>(h'.sav i v hi').imp _root_.id (V.den_sub hs),fun b cs ty hF=> ?_,h'.nob,h'.inj,h'.row,h'.nor,h'.sep,h'.rsep,fun b cs hF=> ?_,h'.ext,⟨fun k o1 hk=> ?_,fun k o1 b hk e=> ?_,fun k o1 b r s hk hF hs' hc e=> ?_,fun D hD'=> ?_,?_,fun i yi hyi=> ?_,fun i hF hl'=> ?_,fun i r s hF hs' p hp=> ?_,fun i r s hF hk hs'=> ?_⟩⟩
 ·obtain⟨v,h1,h2⟩:=h'.tmp t ht
  exact⟨v,h1,h2.imp _root_.id (V.den_sub hs)⟩
 ·obtain⟨k,vs,h1,h2,h3,h4⟩:=h'.box b cs ty hF
  exact⟨k,vs,h1,h2,aU hs h3,h4⟩
 ·obtain⟨k,vs,h1,h2,h3,h4⟩:=h'.fb b cs hF
  exact⟨k,vs,h1,h2,aU hs h3,h4⟩
 ·rcases zcase k o1 hk with⟨rfl,rfl⟩ | ⟨rfl,rfl⟩ | ⟨h1,h2⟩
  ·exact⟨hL,fun _=>by show W0.heap.size<=_;have:W0.heap.size<=w.heap.size:=hbase;omega⟩
  ·exact⟨hD,fun _=>hbase⟩
  ·exact h'.gs.at' k o1 h2
 ·have:=boxlt b k e
  rcases zcase k o1 hk with⟨rfl,rfl⟩ | ⟨rfl,rfl⟩ | ⟨h1,h2⟩
  ·omega
  ·omega
  ·exact h.gs.box k o1 b h2 e
 ·have:=rowlt b r s k hF hs' e
  rcases zcase k o1 hk with⟨rfl,rfl⟩ | ⟨rfl,rfl⟩ | ⟨h1,h2⟩
  ·omega
  ·omega
  ·exact h.gs.row k o1 b r s h2 hF hs' hc e
 ·show(if D=rf.l then some (.loop o) else if D=w.heap.size then some (.deferred (some [])) else j.g.z D)=_
  rcases List.mem_cons.1 hD' with rfl | hD'
  ·rw[if_neg (by omega),if_pos rfl]
  ·have h1:=h.gs.md D hD'
   have h2:=h.gs.lt h1
   rw[if_neg (by omega),if_neg (by omega)]
   exact h1
 ·refine List.nodup_cons.2 ⟨fun hm=> ?_,h.gs.nd⟩
  have:=h.gs.lt (h.gs.md _ hm)
  omega
 ·simp only[Ua.setl] at hyi
  by_cases e:i=id
  ·rw[if_pos e] at hyi
   cases hyi
   exact⟨rf,o,rfl,by simp[e],by simp,hi⟩
  ·rw[if_neg e] at hyi
   obtain⟨_,_,h1,_⟩:=h.gs.lp i yi hyi
   rw[hrf] at h1;cases h1
 ·simp only[Ua.setl] at hl'
  by_cases e:i=id
  ·rw[if_pos e] at hl';cases hl'
  ·rw[if_neg e] at hl'
   show(if i=id then some rf.l else j.g.y i)=none
   rw[if_neg e]
   exact h.gs.nol i hF hl'
 ·obtain⟨h1,h2⟩:=h.gs.ev i r s hF hs' p hp
  have h3:=h.gs.lt h1
  refine⟨?_,h2⟩
  show(if p.1=rf.l then some (.loop o) else if p.1=w.heap.size then some (.deferred (some [])) else j.g.z p.1)=_
  rw[if_neg (by omega),if_neg (by omega)]
  exact h1
 ·refine(h.gs.tb i r s hF hk hs').mono rfl rfl (fun k o1 _ hk1=> ?_) (fun g ha=> ?_)
  ·have h3:=h.gs.lt hk1
   show(if k=rf.l then some (.loop o) else if k=w.heap.size then some (.deferred (some [])) else j.g.z k)=_
   rw[if_neg (by omega),if_neg (by omega)]
   exact hk1
  ·have h3:=(h.tabBlk hF hk hs' ha).2
   exact(x2.block g (by omega)).trans (x1.block g h3)
theorem Rel.unmark:∀(M:List Nat) {W0:Wb} {F:Ua} {j:J} {a:Act} {w:World},W0.M=M->Rel U n X W0 fb F j a w->∀{fn:Func} {R:Ending->World->Prop} {F1:Fence} {m:Nat} {tm:Array Value},(∀j' w',Rel U n X {W0 with M:=[]} fb F j' {a with defers:=({W0 with M:=[]}:Wb).ds} w'->LeavesInM F1 m P fn tm R [] .returning w')->
   LeavesInM F1 m P fn tm R (M.map fun D=>{target:=.collected D,args:= #[]}) .returning w
 | [],W0,F,j,a,w,hM,h,fn,R,F1,m,tm,hk=>by
   obtain⟨w0,M,top,rf,hw0,hh0⟩:=W0
   cases hM
   refine hk j w ?_
   have:=h.defers
   obtain⟨t,d⟩:=a
   cases this
   exact h
 | D::M,W0,F,j,a,w,hM,h,fn,R,F1,m,tm,hk=>by
   obtain⟨w0,M0,top,rf,hw0,hh0⟩:=W0
   cases hM
   have hz:=h.gs.md D bA
   have hnd:=List.nodup_cons.1 h.gs.nd
   refine⟨(by simp),.inl ⟨D,_,rfl,run_takeDeferred (h.gs.at' _ _ hz).1,?_⟩⟩
   have h1:Rel U n X ⟨w0,M,top,rf,hw0,hh0⟩ fb F (j.setz D none) {a with defers:=(⟨w0,M,top,rf,hw0,hh0⟩:Wb).ds} (w.putObj D (.deferred none)):=by
    have h0:Rel U n X ⟨w0,D::M,top,rf,hw0,hh0⟩ fb F j a w:=h
    have:=Rel.putz (M:=M) (top:=top) (rf:=rf) (F':=F) (a:={a with defers:=(⟨w0,M,top,rf,hw0,hh0⟩:Wb).ds}) (W0:=⟨w0,M,top,rf,hw0,hh0⟩) (w:=w) (j:=j) (n:=n) (X:=X) (fb:=fb) (U:=U) (F:=F) ⟨rfl,h0.size,h0.tmp,h0.sav,h0.box,h0.nob,h0.inj,h0.row,h0.nor,h0.sep,h0.rsep,h0.fb,h0.ext,⟨h0.gs.at',h0.gs.box,h0.gs.row,fun D' hD'=>h0.gs.md D' (bZ _ hD'),hnd.2,h0.gs.lp,h0.gs.nol,h0.gs.ev,h0.gs.tb⟩⟩ hz rfl (.deferred none) none rfl rfl (fun _ _ h=>h) (fun _ h=>h) rfl (fun D' hD'=>⟨hD',fun e=>hnd.1 (e▸hD')⟩) hnd.2 (fun y e=>by cases e) (fun id y hy=> ?_) h0.gs.nol
    ·exact this
    ·obtain⟨r,o,g1,g2,g3,g4⟩:=h0.gs.lp id y hy
     refine⟨r,o,g1,g2,?_,g4⟩
     show(if r.l=D then none else j.g.z r.l)=_
     rw[if_neg (fun e=>by rw[e,hz] at g3;cases g3)]
     exact g3
   exact Rel.unmark M (W0:=⟨w0,M,top,rf,hw0,hh0⟩) rfl h1 (fun j' w' h2=>hk j' w' h2)
end
structure Rec where
 o:Oper
 want:Bool
 nid:Nat
 eff:Eff
def Ua.rec' (F:Ua) (r:Rec):Ua:=F.app r.o.dst r.nid r.eff
def opTs:List Operand->List Nat
 | []=>[]
 | .tmp t::l=>t::opTs l
 | _::l=>opTs l
theorem aab {t:Nat}:∀{l:List Operand},.tmp t∈l->t∈opTs l
 | x::l,h=>by
   rcases List.mem_cons.1 h with rfl | h
   ·exact bA
   ·have ih:=aab h
    cases x with
    | tmp u=>exact bZ _ ih
    | _=>exact ih
def gTs (ops:Array Oper) (o:Oper):List Nat:=
 match o.guard with
 | none=>[]
 | some (g,_)=>((ops[g]?).bind (·.dst)).toList
def Rec.ts (ops:Array Oper) (r:Rec):List Nat:=opTs r.o.op.operands.toList++gTs ops r.o
def hasN (t:Nat):List Nat->Bool
 | []=>false
 | x::l=>Nat.beq x t||hasN t l
def hasP (b o:Nat):List (Nat×Nat)->Bool
 | []=>false
 | (x,y)::l=>(Nat.beq x b&&Nat.beq y o)||hasP b o l
theorem ajF {t:Nat} {l:List Nat}:hasN t l=false↔t ∉ l:=by
 induction l with
 | nil=>simp[hasN]
 | cons x l ih=>
   simp only[hasN,Bool.or_eq_false_iff,ih,List.mem_cons,not_or]
   constructor
   ·rintro ⟨h1,h2⟩
    exact⟨fun e=>by rw[e] at h1;simp at h1,h2⟩
   ·rintro ⟨h1,h2⟩
    refine⟨?_,h2⟩
    cases h:x.beq t
    ·rfl
    ·exact absurd (thm1 h).symm h1
theorem ajE {b o:Nat} {l:List (Nat×Nat)}:hasP b o l=false↔(b,o) ∉ l:=by
 induction l with
 | nil=>simp[hasP]
 | cons x l ih=>
   obtain⟨x,y⟩:=x
   simp only[hasP,Bool.or_eq_false_iff,ih,List.mem_cons,not_or,Bool.and_eq_false_iff]
   constructor
   ·rintro ⟨h1,h2⟩
    refine⟨fun e=> ?_,h2⟩
    cases e
    rcases h1 with h1 | h1<;>simp at h1
   ·rintro ⟨h1,h2⟩
    refine⟨?_,h2⟩
    cases h:x.beq b
    ·exact .inl rfl
    ·cases h':y.beq o
     ·exact .inr rfl
     ·exact absurd (by rw[thm1 h,thm1 h']) h1
def wrC (l:List (Nat×Nat×C)):List (Nat×Nat):=l.map fun p=>(p.1,p.2.1)
def Rec.rid (r:Rec):List Nat:=(r.eff.re.rs r.nid).map (·.1)
def Rec.touch (r:Rec):List Nat:=r.eff.rd.map (·.1)++r.eff.wr.map (·.1)
def Rec.alid (r:Rec):List Nat:=match r.eff.al with | some _=>[r.nid] | none=>[]
def ajB (ops:Array Oper) (r s:Rec):Bool:=
 (r.o.dst.toList.all fun d=>!hasN d (s.ts ops) &&!hasN d s.o.dst.toList)&&(s.o.dst.toList.all fun d=>!hasN d (r.ts ops))&&
 ((wrC r.eff.wr).all fun p=>!hasP p.1 p.2 s.eff.rd &&!hasP p.1 p.2 (wrC s.eff.wr))&&((wrC s.eff.wr).all fun p=>!hasP p.1 p.2 r.eff.rd)&&
 (r.alid.all fun b=>!hasN b s.touch &&!hasN b s.alid)&&(s.alid.all fun b=>!hasN b r.touch)&&
 (r.rid.all fun b=>!hasN b s.eff.rr &&!hasN b s.rid)&&(s.rid.all fun b=>!hasN b r.eff.rr)
structure Indep (ops:Array Oper) (r s:Rec):Prop where
 d1:∀d,r.o.dst=some d->d ∉ s.ts ops
 d2:∀d,r.o.dst=some d->s.o.dst≠some d
 d3:∀d,s.o.dst=some d->d ∉ r.ts ops
 w1:∀p∈r.eff.wr,(p.1,p.2.1) ∉ s.eff.rd
 w2:∀p∈r.eff.wr,∀q∈s.eff.wr,(p.1,p.2.1)≠(q.1,q.2.1)
 w3:∀p∈s.eff.wr,(p.1,p.2.1) ∉ r.eff.rd
 a1:r.eff.al≠none->r.nid ∉ s.touch
 a2:r.eff.al≠none->s.eff.al≠none->r.nid≠s.nid
 a3:s.eff.al≠none->s.nid ∉ r.touch
 r1:∀b∈r.rid,b ∉ s.eff.rr
 r2:∀b∈r.rid,b ∉ s.rid
 r3:∀b∈s.rid,b ∉ r.eff.rr
theorem aaq {ops:Array Oper} {r s:Rec} (h:ajB ops r s=true):Indep ops r s:=by
 simp only[ajB,thm0,thm7,Bool.not_eq_true',ajF,ajE,Option.mem_toList] at h
 obtain⟨⟨⟨⟨⟨⟨⟨h1,h2⟩,h3⟩,h4⟩,h5⟩,h6⟩,h7⟩,h8⟩:=h
 have hal:∀{x:Rec},x.eff.al≠none->x.nid∈x.alid:=fun {x} hx=>by
  unfold Rec.alid
  split
  ·simp
  ·rename_i hn;exact absurd hn hx
 refine⟨fun d hd=>(h1 d hd).1,fun d hd=>(h1 d hd).2,fun d hd=>h2 d hd,fun p hp=>(h3 _ (List.mem_map.2 ⟨p,hp,rfl⟩)).1,fun p hp q hq e=>(h3 _ (List.mem_map.2 ⟨p,hp,rfl⟩)).2 (List.mem_map.2 ⟨q,hq,e.symm⟩),
  fun p hp=>h4 _ (List.mem_map.2 ⟨p,hp,rfl⟩),fun hx=>(h5 _ (hal hx)).1,fun hx hy e=>(h5 _ (hal hx)).2 (e▸hal hy),fun hx=>h6 _ (hal hx),fun b hb=>(h7 b hb).1,fun b hb=>(h7 b hb).2,h8⟩
theorem Indep.symm {ops:Array Oper} {r s:Rec} (h:Indep ops r s):Indep ops s r:=
 ⟨h.d3,fun d hd e=>h.d2 d e hd,h.d1,h.w3,fun p hp q hq e=>h.w2 q hq p hp e.symm,h.w1,h.a3,fun hx hy e=>h.a2 hy hx e.symm,h.a1,h.r3,fun b hb hb'=>h.r2 b hb' hb,h.r1⟩
theorem vB (F:Ua) (p:Nat×Nat×C) (b o:Nat):ldF (F.wr p) b o=if b=p.1/\o=p.2.1 then(ldF F b o).map (fun _=>p.2.2) else ldF F b o:=by
 unfold ldF Ua.wr
 by_cases hb:b=p.1
 ·simp only[hb,if_true,true_and]
  cases F.box p.1 with
  | none=>simp
  | some x=>
    simp only[Option.map_some,Option.bind_some,cO]
    by_cases ho:o=p.2.1
    ·subst ho
     simp only[if_true]
     split
     ·rename_i hlt
      simp[thm6 hlt]
     ·rename_i hlt
      simp[bB (Nat.le_of_not_lt hlt)]
    ·rw[if_neg (fun e:p.2.1=o=>ho e.symm),if_neg ho]
 ·simp[hb]
theorem kj:∀{l:List (Nat×Nat×C)} {F:Ua} {b o:Nat},(∀p∈l,(p.1,p.2.1)≠(b,o))->ldF (F.wrs l) b o=ldF F b o
 | [],_,_,_,_=>rfl
 | p::l,F,b,o,h=>by
   have h1:=kj (l:=l) (F:=F.wr p) (b:=b) (o:=o) (fun q hq=>h q (bZ _ hq))
   have h2:=h p bA
   show ldF ((F.wr p).wrs l) b o=_
   rw[h1,vB,if_neg (fun e=>h2 (by rw[e.1,e.2]))]
theorem kl:∀{l:List (Nat×Nat×C)} {F F':Ua} {b o:Nat},ldF F b o=ldF F' b o->ldF (F.wrs l) b o=ldF (F'.wrs l) b o
 | [],_,_,_,_,h=>h
 | p::l,F,F',b,o,h=>by
   show ldF ((F.wr p).wrs l) b o=ldF ((F'.wr p).wrs l) b o
   exact kl (by rw[vB,vB,h])
theorem ek:∀{l:List (Nat×Nat×C)} {F:Ua} {b o:Nat},(ldF (F.wrs l) b o).isSome=(ldF F b o).isSome
 | [],_,_,_=>rfl
 | p::l,F,b,o=>by
   have h1:(ldF ((F.wr p).wrs l) b o).isSome=_:=ek (l:=l)
   show(ldF ((F.wr p).wrs l) b o).isSome=_
   rw[h1,vB]
   split<;>simp
theorem aox (F:Ua) (nid:Nat) (x:List C×Nat) (b o:Nat):ldF (F.new nid x) b o=if b=nid then x.1[o]? else ldF F b o:=by
 unfold ldF Ua.new
 by_cases h:b=nid<;>simp[h]
theorem aow (F:Ua) (d:Option Nat) (v:V) (b o:Nat):ldF (F.put d v) b o=ldF F b o:=rfl
theorem lR:∀{l:List (Nat×Nat×C)} {F:Ua} {b:Nat},(F.wrs l).box b=none↔F.box b=none
 | [],_,_=>Iff.rfl
 | p::l,F,b=>by
   have h1:((F.wr p).wrs l).box b=none↔_:=lR (l:=l)
   show((F.wr p).wrs l).box b=none↔_
   rw[h1]
   unfold Ua.wr
   by_cases h:b=p.1<;>simp[h]
structure Agree (ops:Array Oper) (r:Rec) (F F':Ua):Prop where
 t:∀t∈r.ts ops,F.tmp t=F'.tmp t
 rd:∀p∈r.eff.rd,ldF F p.1 p.2=ldF F' p.1 p.2
 wr:∀p∈r.eff.wr,(ldF F p.1 p.2.1).isSome=(ldF F' p.1 p.2.1).isSome
 nw:r.eff.al≠none->(F.box r.nid=none↔F'.box r.nid=none)
 row:∀b∈r.eff.rr++r.rid,F.row b=F'.row b
theorem wh (F:Ua) (d:Option Nat) (nid:Nat) (eff:Eff) (t:Nat):(F.app d nid eff).tmp t=if d=some t then eff.val else F.tmp t:=by
 unfold Ua.app Ua.put
 dsimp only
 by_cases h:d=some t
 ·simp[h]
 ·simp only[h,if_false]
  rw[(aN _ _).2.1]
  split
  ·rfl
  ·have:∀(l:List (Nat×Nat×C)) (F:Ua),(F.wrs l).tmp=F.tmp:=by
    intro l
    induction l with
    | nil=>intro F;rfl
    | cons p l ih=>intro F;exact ih (F.wr p)
   rw[this]
theorem aov (F:Ua) (l:List (Nat×Option RowOb)) (b o:Nat):ldF (F.rws l) b o=ldF F b o:=by unfold ldF;rw[(aN l F).1]
theorem la (F:Ua) (d:Option Nat) (nid:Nat) (eff:Eff) (b o:Nat):ldF (F.app d nid eff) b o=match eff.al with | some x=>if b=nid then x.1[o]? else ldF F b o | none=>ldF (F.wrs eff.wr) b o:=by
 unfold Ua.app
 rw[aow,aov]
 cases eff.al with
 | some x=>exact aox F nid x b o
 | none=>rfl
theorem gO (F:Ua) (d:Option Nat) (nid:Nat) (eff:Eff) (b:Nat):(F.app d nid eff).box b=none↔match eff.al with | some _=>b≠nid/\F.box b=none | none=>F.box b=none:=by
 unfold Ua.app Ua.put
 dsimp only
 rw[(aN _ _).1]
 cases eff.al with
 | some x=>
   unfold Ua.new
   by_cases h:b=nid<;>simp[h]
 | none=>exact lR
theorem ab1:∀(l:List (Nat×Nat×C)) (F:Ua),(F.wrs l).lp=F.lp
 | [],F=>rfl
 | p::l,F=>ab1 l (F.wr p)
theorem qj:∀(l:List (Nat×Nat×C)) (F:Ua),(F.wrs l).row=F.row
 | [],_=>rfl
 | p::l,F=>qj l (F.wr p)
theorem eY:∀(l:List (Nat×Option RowOb)) (F:Ua) (b:Nat),b ∉ l.map (·.1)->(F.rws l).row b=F.row b
 | [],_,_,_=>rfl
 | p::l,F,b,h=>by
   simp only[List.map_cons,List.mem_cons,not_or] at h
   have h1:=eY l (F.rw1 p) b h.2
   show((F.rw1 p).rws l).row b=_
   rw[h1]
   simp[Ua.rw1,h.1]
theorem dN:∀(l:List (Nat×Option RowOb)) (F F':Ua) (b:Nat),F.row b=F'.row b->(F.rws l).row b=(F'.rws l).row b
 | [],_,_,_,h=>h
 | p::l,F,F',b,h=>dN l (F.rw1 p) (F'.rw1 p) b (by simp only[Ua.rw1];split<;>simp_all)
theorem xB (F:Ua) (d:Option Nat) (nid:Nat) (eff:Eff):(F.app d nid eff).row=(F.rws (eff.re.rs nid)).row:=by
 unfold Ua.app Ua.put
 dsimp only
 funext b
 apply dN
 split
 ·rfl
 ·rw[qj]
theorem Agree.refl (ops:Array Oper) (r:Rec) (F:Ua):Agree ops r F F:=⟨fun _ _=>rfl,fun _ _=>rfl,fun _ _=>rfl,fun _=>Iff.rfl,fun _ _=>rfl⟩
theorem Agree.trans {ops:Array Oper} {r:Rec} {F F' F'':Ua} (h:Agree ops r F F') (h':Agree ops r F' F''):Agree ops r F F'':=
 ⟨fun t ht=>(h.t t ht).trans (h'.t t ht),fun p hp=>(h.rd p hp).trans (h'.rd p hp),fun p hp=>(h.wr p hp).trans (h'.wr p hp),fun hx=>(h.nw hx).trans (h'.nw hx),fun b hb=>(h.row b hb).trans (h'.row b hb)⟩
theorem Agree.symm {ops:Array Oper} {r:Rec} {F F':Ua} (h:Agree ops r F F'):Agree ops r F' F:=
 ⟨fun t ht=>(h.t t ht).symm,fun p hp=>(h.rd p hp).symm,fun p hp=>(h.wr p hp).symm,fun hx=>(h.nw hx).symm,fun b hb=>(h.row b hb).symm⟩
theorem Agree.congr {ops:Array Oper} {r s:Rec} {F F':Ua} (h:Agree ops r F F'):Agree ops r (F.rec' s) (F'.rec' s):=by
 unfold Ua.rec'
 refine⟨fun t ht=>by rw[wh,wh,h.t t ht],fun p hp=> ?_,fun p hp=> ?_,fun hx=> ?_,fun b hb=>by rw[xB,xB];exact dN _ _ _ b (h.row b hb)⟩
 ·rw[la,la]
  split
  ·rw[h.rd p hp]
  ·exact kl (h.rd p hp)
 ·rw[la,la]
  split
  ·split
   ·rfl
   ·exact h.wr p hp
  ·rw[ek,ek];exact h.wr p hp
 ·rw[gO,gO]
  split
  ·rw[h.nw hx]
  ·exact h.nw hx
theorem Agree.step {ops:Array Oper} {r s:Rec} (hi:Indep ops s r) (F:Ua):Agree ops r F (F.rec' s):=by
 unfold Ua.rec'
 refine⟨fun t ht=> ?_,fun p hp=> ?_,fun p hp=> ?_,fun hx=> ?_,fun b hb=> ?_⟩
 ·rw[wh,if_neg (fun e=>hi.d1 t e ht)]
 ·rw[la]
  split
  ·rename_i x hal
   rw[if_neg (fun e=>hi.a1 (by rw[hal];simp) (by rw[<-e];exact List.mem_append_left _ (List.mem_map.2 ⟨p,hp,rfl⟩)))]
  ·exact(kj (fun q hq e=>hi.w1 q hq (by rw[e];exact hp))).symm
 ·rw[la]
  split
  ·rename_i x hal
   rw[if_neg (fun e=>hi.a1 (by rw[hal];simp) (by rw[<-e];exact List.mem_append_right _ (List.mem_map.2 ⟨p,hp,rfl⟩)))]
  ·rw[ek]
 ·rw[gO]
  split
  ·rename_i x hal
   constructor
   ·intro h;exact⟨fun e=>hi.a2 (by rw[hal];simp) hx e.symm,h⟩
   ·exact fun h=>h.2
  ·exact Iff.rfl
 ·rw[xB,eY]
  intro hm
  rcases List.mem_append.1 hb with hb | hb
  ·exact hi.r1 b hm hb
  ·exact hi.r2 b hm hb
theorem alN (F:Ua) (p q:Nat×Nat×C) (h:(p.1,p.2.1)≠(q.1,q.2.1)):(F.wr p).wr q=(F.wr q).wr p:=by
 refine Ua.ext' (fun _=>rfl) (fun b=> ?_) (fun _=>rfl) (fun _=>rfl)
 unfold Ua.wr
 dsimp only
 by_cases h1:b=p.1
 ·by_cases h2:b=q.1
  ·have hpq:p.1=q.1:=h1.symm.trans h2
   have ho:p.2.1≠q.2.1:=fun e=>h (by rw[hpq,e])
   simp only[h1,hpq,if_true]
   cases F.box q.1 with
   | none=>rfl
   | some x=>simp[List.set_comm _ _ ho]
  ·simp[h1,h2,show¬p.1=q.1 from fun e=>h2 (h1.trans e)]
 ·by_cases h2:b=q.1
  ·simp[h1,h2,show¬q.1=p.1 from fun e=>h1 (h2.trans e)]
  ·simp[h1,h2]
theorem aj3 (p:Nat×Nat×C):∀(l:List (Nat×Nat×C)) (F:Ua),(∀q∈l,(p.1,p.2.1)≠(q.1,q.2.1))->(F.wr p).wrs l=(F.wrs l).wr p
 | [],_,_=>rfl
 | q::l,F,h=>by
   show((F.wr p).wr q).wrs l=((F.wr q).wrs l).wr p
   rw[alN F p q (h q bA)]
   exact aj3 p l (F.wr q) (fun x hx=>h x (bZ _ hx))
theorem ab0:∀(l m:List (Nat×Nat×C)) (F:Ua),(∀p∈l,∀q∈m,(p.1,p.2.1)≠(q.1,q.2.1))->(F.wrs l).wrs m=(F.wrs m).wrs l
 | [],_,_,_=>rfl
 | p::l,m,F,h=>by
   show((F.wr p).wrs l).wrs m=((F.wrs m).wr p).wrs l
   rw[ab0 l m (F.wr p) (fun x hx=>h x (bZ _ hx)),aj3 p m F (h p bA)]
theorem xK (nid:Nat) (x:List C×Nat):∀(l:List (Nat×Nat×C)) (F:Ua),(∀q∈l,q.1≠nid)->(F.new nid x).wrs l=(F.wrs l).new nid x
 | [],_,_=>rfl
 | q::l,F,h=>by
   show((F.new nid x).wr q).wrs l=((F.wr q).wrs l).new nid x
   have h1:=h q bA
   have:(F.new nid x).wr q=(F.wr q).new nid x:=by
    refine Ua.ext' (fun _=>rfl) (fun b=> ?_) (fun _=>rfl) (fun _=>rfl)
    unfold Ua.wr Ua.new
    dsimp only
    by_cases hb:b=nid
    ·simp[hb,show¬nid=q.1 from fun e=>h1 e.symm]
    ·simp[hb]
   rw[this]
   exact xK nid x l (F.wr q) (fun y hy=>h y (bZ _ hy))
theorem afN (d:Option Nat) (v:V):∀(l:List (Nat×Nat×C)) (F:Ua),(F.put d v).wrs l=(F.wrs l).put d v
 | [],_=>rfl
 | q::l,F=>afN d v l (F.wr q)
theorem xH (d:Option Nat) (v:V):∀(l:List (Nat×Option RowOb)) (F:Ua),(F.put d v).rws l=(F.rws l).put d v
 | [],_=>rfl
 | q::l,F=>xH d v l (F.rw1 q)
theorem anZ (l:List (Nat×Option RowOb)) (m:List (Nat×Nat×C)) (F:Ua):(F.rws l).wrs m=(F.wrs m).rws l:=by
 refine Ua.ext' (fun t=> ?_) (fun b=> ?_) (fun b=> ?_) (fun b=>by rw[ab1,(aN l F).2.2,(aN l _).2.2,ab1])
 ·have t1:∀(m:List (Nat×Nat×C)) (F:Ua),(F.wrs m).tmp=F.tmp:=by
   intro m
   induction m with
   | nil=>intro F;rfl
   | cons p m ih=>intro F;exact ih (F.wr p)
  rw[t1,(aN l F).2.1,(aN l _).2.1,t1]
 ·have b1:∀(m:List (Nat×Nat×C)) (F F':Ua),F.box=F'.box->(F.wrs m).box=(F'.wrs m).box:=by
   intro m
   induction m with
   | nil=>intro F F' h;exact h
   | cons p m ih=>intro F F' h;exact ih _ _ (by simp only[Ua.wr,h])
  rw[(aN l _).1,b1 m (F.rws l) F (aN l F).1]
 ·rw[qj]
  exact dN l F (F.wrs m) b (by rw[qj])
theorem an1 (l:List (Nat×Option RowOb)) (nid:Nat) (x:List C×Nat) (F:Ua):(F.rws l).new nid x=(F.new nid x).rws l:=by
 refine Ua.ext' (fun t=> ?_) (fun b=> ?_) (fun b=> ?_) (fun b=>by rw[(aN l _).2.2];exact congrFun (aN l F).2.2 b)
 ·rw[(aN l _).2.1];exact congrFun (aN l F).2.1 t
 ·rw[(aN l _).1]
  simp only[Ua.new,(aN l F).1]
 ·exact dN l F (F.new nid x) b rfl
theorem an0:∀(l m:List (Nat×Option RowOb)) (F:Ua),(∀b∈l.map (·.1),b ∉ m.map (·.1))->(F.rws l).rws m=(F.rws m).rws l
 | l,m,F,h=>by
   refine Ua.ext' (fun t=> ?_) (fun b=> ?_) (fun b=> ?_) (fun b=>by rw[(aN m _).2.2,(aN l _).2.2,(aN l _).2.2,(aN m _).2.2])
   ·rw[(aN m _).2.1,(aN l _).2.1,(aN l _).2.1,(aN m _).2.1]
   ·rw[(aN m _).1,(aN l _).1,(aN l _).1,(aN m _).1]
   ·by_cases hl:b∈l.map (·.1)
    ·rw[eY m _ b (h b hl)]
     exact dN l F (F.rws m) b (eY m F b (h b hl)).symm
    ·rw[eY l _ b hl]
     exact dN m (F.rws l) F b (eY l F b hl)
def Rec.bx (r:Rec) (F:Ua):Ua:=match r.eff.al with | some x=>F.new r.nid x | none=>F.wrs r.eff.wr
theorem zT (r:Rec) (F:Ua):F.rec' r=((r.bx F).rws (r.eff.re.rs r.nid)).put r.o.dst r.eff.val:=rfl
theorem ak2 (r:Rec) (d:Option Nat) (v:V) (F:Ua):r.bx (F.put d v)=(r.bx F).put d v:=by
 unfold Rec.bx
 split
 ·rfl
 ·exact afN d v _ F
theorem ak1 (r:Rec) (l:List (Nat×Option RowOb)) (F:Ua):r.bx (F.rws l)=(r.bx F).rws l:=by
 unfold Rec.bx
 split
 ·exact an1 l _ _ F
 ·exact anZ l _ F
theorem aoQ {ops:Array Oper} {r s:Rec} (h:Indep ops r s) (F:Ua):s.bx (r.bx F)=r.bx (s.bx F):=by
 unfold Rec.bx
 cases hr:r.eff.al with
 | some x=>
   cases hs:s.eff.al with
   | some y=>
     refine Ua.ext' (fun _=>rfl) (fun b=> ?_) (fun _=>rfl) (fun _=>rfl)
     unfold Ua.new
     dsimp only
     have hne:=h.a2 (by rw[hr];simp) (by rw[hs];simp)
     by_cases h1:b=s.nid<;>by_cases h2:b=r.nid<;>simp[h1,h2]
     ·exact absurd (h2.symm.trans h1) hne
     ·intro e;exact absurd e.symm hne
     ·intro e;exact absurd e hne
   | none=>
     have hq:∀q∈s.eff.wr,q.1≠r.nid:=fun q hq e=>h.a1 (by rw[hr];simp) (by rw[<-e];exact List.mem_append_right _ (List.mem_map.2 ⟨q,hq,rfl⟩))
     exact xK _ _ _ F hq
 | none=>
   cases hs:s.eff.al with
   | some y=>
     have hq:∀q∈r.eff.wr,q.1≠s.nid:=fun q hq e=>h.a3 (by rw[hs];simp) (by rw[<-e];exact List.mem_append_right _ (List.mem_map.2 ⟨q,hq,rfl⟩))
     exact(xK _ _ _ F hq).symm
   | none=>exact ab0 _ _ F h.w2
theorem zU {ops:Array Oper} {r s:Rec} (h:Indep ops r s) (F:Ua):(F.rec' r).rec' s=(F.rec' s).rec' r:=by
 have hp:∀F:Ua,(F.put r.o.dst r.eff.val).put s.o.dst s.eff.val=(F.put s.o.dst s.eff.val).put r.o.dst r.eff.val:=by
  intro F
  refine Ua.ext' (fun t=> ?_) (fun _=>rfl) (fun _=>rfl) (fun _=>rfl)
  unfold Ua.put
  dsimp only
  by_cases h1:s.o.dst=some t<;>by_cases h2:r.o.dst=some t<;>simp[h1,h2]
  exact absurd h1 (h.d2 t h2)
 rw[zT s,zT r,zT r,zT s,ak2,ak1,xH,hp,aoQ h,an0 _ _ _ (fun b hb=>h.r2 b hb),ak2,ak1,xH]
def Fw (ro:Option Nat):Fence:={Fence.wide with round:=ro}
section
variable {P:Program} {ro:Option Nat} {n:Nat} {ops:Array Oper} {Q:Exit->Act->World->Prop}
theorem aav {p:Prop}:(Fw ro).depth.isSome=true->p:=fun h=>by cases h
theorem hJ {f:FuncId} {args:Array Value} {w:World} {R:Ending->World->Prop}:CallsIn (Fw ro) n P f args w R↔Calls P f args w R:= @callsIn_wide n P f args w R
theorem kE {m m':Machine}:StepsIn (Machine.fenced P (Fw ro)) P m m'↔Steps P m m':= @stepsIn_wide P m m'
theorem gQ {o:Oper} {a:Act} {w:World} {K:Act->World->Prop} (hnd:∀c,o.op≠.defer c) (h:o.wp P a w K Q):o.wpIn (Fw ro) n P a w K Q:=by
 refine⟨fun _ _=>trivial,?_⟩
 rw[Oper.semAt_eq _ _ _ hnd]
 unfold Oper.wp at h
 generalize (execOp a.eval o).run P w=r at *
 cases r with
 | ok x w'=>
   cases x with
   | value v=>exact h
   | skip=>exact h
   | defer d=>exact h
   | enter f args=>exact⟨aav,hJ.2 h⟩
   | row row args=>
     refine⟨aav,fun c cs hr=> ?_⟩
     obtain⟨v,w'',h1,h2⟩:=h c cs
     exact⟨v,w'',h1,kE.2 h2⟩
   | _=>exact h.elim
 | halt x w'=>cases x<;>first | exact h | exact h.elim
theorem ajt {o:Oper} {a:Act} {w:World} (h:o.wp P a w (fun a' _=>a'.defers=a.defers) (fun _ _ _=>False)):∀c,o.op≠.defer c:=by
 intro c hc
 unfold Oper.wp at h
 have:∃r:Result Deferred,(execOp a.eval o).run P w=r.andThen fun d w=>.ok (.defer d) w:=⟨(resolve a.eval c o.type).run P w,by simp only[execOp,hc,Sem.run_bind,Sem.run_pure]⟩
 obtain⟨r,hr⟩:=this
 rw[hr] at h
 cases r with
 | ok d w'=>
   have h1:({a with defers:=d::a.defers}.put o.dst Go.undef).defers=a.defers:=h
   have h2:({a with defers:=d::a.defers}.put o.dst Go.undef).defers=d::a.defers:=by unfold Act.put;split<;>rfl
   rw[h2] at h1
   have:=congrArg List.length h1
   simp at this
 | halt x w'=>cases x<;>exact h
theorem iE {c:Code} {a:Act} {w:World} (h:c.wpIn (Fw ro) n P (Exit.noGoto Q) a w):(Code.scope c).wpIn (Fw ro) n P Q a w:=by
 intro b k cs hro hb hr
 obtain⟨e,a₁,w₁,hq,harr⟩:=h b (.inScope c::k) cs hro hb hr
 have s1:step P (lone (b.atR a (.code (.scope c)::k)) cs w)=.next (lone (b.atR a (.code c::.inScope c::k)) cs w):=step_lone_go (by simp[stepG,stepG.exec,Frame.atR])
 have s2:∀a w,step P (lone (b.atR a (.inScope c::k)) cs w)=.next (lone (b.atR a k) cs w):=fun a w=>step_lone_go (by simp[stepG,stepG.exec,Frame.atR])
 have S1:StepsIn (Machine.fenced P (Fw ro)) P (lone (b.atR a (.code (.scope c)::k)) cs w) (lone (b.atR a (.code c::.inScope c::k)) cs w):=kE.2 (.one s1)
 cases e with
 | normal=>exact⟨.normal,a₁,w₁,hq,S1.trans (StepsIn.trans harr (kE.2 (.one (s2 _ _))))⟩
 | exit id=>
   have hx:exitTo id (.inScope c::k)=exitTo id k:=by simp[exitTo]
   exact⟨.exit id,a₁,w₁,hq,fun k' hk=>S1.trans (harr.1 k' (by rw[hx];exact hk)),fun hr' hk=>let⟨k₁,h1,h2⟩:=harr.2 hr' (by rw[hx];exact hk);⟨k₁,h1,S1.trans h2⟩⟩
 | goto l=>exact hq.elim
 | ret=>exact⟨_,a₁,w₁,hq,.of_steps S1 harr⟩
 | panic ch=>exact⟨_,a₁,w₁,hq,.of_steps S1 harr⟩
 | outgrown=>exact⟨_,a₁,w₁,hq,.of_steps S1 harr⟩
theorem aaS {o:Oper} {a:Act} {w:World} {K:Act->World->Prop} {Q':Exit->Act->World->Prop} (h:∀e a w,Q e a w->Q' e a w) (hh:o.wpIn (Fw ro) n P a w K Q):o.wpIn (Fw ro) n P a w K Q':=by
 unfold Oper.wpIn at *
 refine⟨hh.1,?_⟩
 have hh:=hh.2
 generalize (o.semAt (Fw ro).round a.eval).run P w=r at *
 cases r with
 | ok x w'=>
   cases x<;>simp only[Oper.uponIn] at hh ⊢ <;>
    first
     | exact hh
     | exact⟨hh.1,CallsIn.mono hh.2 (fun e w'' he=>by cases e<;>first | exact he | exact h _ _ _ he | exact(let⟨a,w,q⟩:=he;⟨a,w,h _ _ _ q⟩))⟩
     | exact⟨hh.1,RoundIn.mono hh.2 (fun e w'' he=>by cases e<;>first | exact he | exact h _ _ _ he | exact(let⟨a,w,q⟩:=he;⟨a,w,h _ _ _ q⟩))⟩
 | halt x w'=>cases x<;>simp only[Oper.uponIn] at hh ⊢ <;>first | exact h _ _ _ hh | exact hh
theorem sU {i:Nat} {a:Act} {w:World} {K:Act->World->Prop} {Q':Exit->Act->World->Prop} (h:∀e a w,Q e a w->Q' e a w) (hh:wpOpIn (Fw ro) n P ops Q i K a w):wpOpIn (Fw ro) n P ops Q' i K a w:=by
 unfold wpOpIn at *
 split
 ·rename_i ho;simpa[ho] using hh
 ·rename_i o ho
  simp only[ho] at hh
  split
  ·rename_i hw;simp only[hw,if_true] at hh;exact aaS h hh
  ·rename_i hw;simp only[hw] at hh;exact hh
theorem jo {Q':Exit->Act->World->Prop} (h:∀e a w,Q e a w->Q' e a w):∀(fuel:Nat) (listed:Array Bool) (a:Act) (w:World),wpAnyIn (Fw ro) n P .any ops Q fuel listed a w->wpAnyIn (Fw ro) n P .any ops Q' fuel listed a w
 | 0,listed,a,w,hh=>⟨hh.1,h _ _ _ hh.2⟩
 | fuel+1,listed,a,w,hh=>⟨fun hr=>h _ _ _ (hh.1 hr),fun i hi=>sU h (wpOpIn_mono (fun a w q=>jo h fuel _ a w q) (hh.2 i hi))⟩
theorem jn {i:Nat} {o:Oper} {v:Value} {a:Act} (hnd:∀c,o.op≠.defer c) (hi:ops[i]? =some o) (hy:Yields P ops o v a)
  {K:Act->World->Prop} {w:World} (h:K (a.put o.dst v) w):wpOpIn (Fw ro) n P ops Q i K a w:=by
 unfold Go.wpOpIn
 simp only[hi]
 rcases hy with⟨hw,hv⟩ | ⟨hw,rfl⟩
 ·simp only[hw,if_true,Oper.wpIn,Oper.semAt_eq _ _ _ hnd,hv w,Oper.uponIn];exact⟨fun _ _=>trivial,h⟩
 ·simp only[hw,Bool.false_eq_true,if_false];exact⟨fun _ _=>trivial,h⟩
theorem aaR {j:Nat} {oi oj:Oper} {v:Value} (hj:ops[j]? =some oj) (hap:oi.apart ops oj=true)
  (hsi:∀cs b,oi.op≠.select cs b) (hsj:∀cs b,oj.op≠.select cs b) (hndj:∀c,oj.op≠.defer c)
  (hQ:∀c a w,Q (.panic c) (a.put oi.dst v) w->Q (.panic c) a w) {K:Act->World->Prop} {a:Act} {w:World}
  (hy:Yields P ops oi v a) (h:wpOpIn (Fw ro) n P ops Q j K (a.put oi.dst v) w):
  wpOpIn (Fw ro) n P ops Q j (fun a' w'=>Yields P ops oi v a'/\K (a'.put oi.dst v) w') a w:=by
 obtain⟨h1,h2,h3⟩:=Oper.apart_spec hap
 have keep:∀(a:Act),Yields P ops oi v a->∀u,Yields P ops oi v (a.put oj.dst u):=fun a hy u=>
  hy.of_same (execOp_put oi hsi a oj.dst u h3) (wanted_put oi a oj.dst u h3)
 have keepD:∀d,Yields P ops oi v {a with defers:=d::a.defers}:=fun d=>hy.of_same rfl rfl
 unfold wpOpIn at *
 simp only[hj] at *
 rw[wanted_put oj a oi.dst v h1] at h
 split
 ·rename_i hw
  simp only[hw,if_true] at h
  unfold Oper.wpIn at *
  refine⟨fun _ _=>trivial,?_⟩
  have h:=h.2
  rw[Oper.semAt_eq _ _ _ hndj,execOp_put oj hsj a oi.dst v h1] at h
  rw[Oper.semAt_eq _ _ _ hndj]
  generalize (execOp a.eval oj).run P w=r at *
  cases r with
  | ok x w'=>
    cases x<;>simp only[Oper.uponIn] at h ⊢
    case value u=>exact⟨keep a hy u,by rw[<-Act.put_comm a v u h2];exact h⟩
    case skip=>exact⟨keep a hy _,by rw[<-Act.put_comm a v undef h2];exact h⟩
    case defer d=>
     refine⟨keep _ (keepD d) _,?_⟩
     rw[<-Act.put_comm _ v undef h2,<-Act.put_defers]
     exact h
    case enter f args=>
     refine⟨h.1,CallsIn.mono h.2 fun e w'' he=> ?_⟩
     cases e with
     | returned u=>exact⟨keep a hy u,by rw[<-Act.put_comm a v u h2];exact he⟩
     | panicked c=>exact hQ _ _ _ he
     | outgrown=>exact he
    case row row args=>exact⟨h.1,RowsIn.mono h.2 fun u w'' he=>⟨keep a hy u,by rw[<-Act.put_comm a v u h2];exact he⟩⟩
    case round l f tmps assign body=>
     refine⟨h.1,RoundIn.mono h.2 fun e w'' he=> ?_⟩
     cases e with
     | returned u=>exact⟨keep a hy u,by rw[<-Act.put_comm a v u h2];exact he⟩
     | panicked c=>exact hQ _ _ _ he
     | outgrown=>exact he
  | halt x w'=>
    cases x<;>simp only[Oper.uponIn] at h ⊢
    case panic u=>exact hQ _ _ _ h
 ·rename_i hw
  simp only[hw] at h
  exact⟨fun _ _=>trivial,keep a hy _,by rw[<-Act.put_comm a v undef h2];exact h.2⟩
theorem qk {i:Nat} {oi:Oper} {v:Value} (hi:ops[i]? =some oi) (hsel:∀(j:Nat) (o:Oper) cs b,ops[j]? =some o->o.op≠.select cs b) (hnd:∀(j:Nat) (o:Oper) c,ops[j]? =some o->o.op≠.defer c)
  (hQ:∀c a w,Q (.panic c) (a.put oi.dst v) w->Q (.panic c) a w):
  ∀(fuel:Nat) (listed:Array Bool) (a:Act) (w:World),
   (∀j oj,ops[j]? =some oj->j≠i->listed.getD j true=false->(∀e∈oj.after,Region.binds .any e=true->e.on≠i)->oi.apart ops oj=true)->
   i∈Region.ready .any ops listed->Yields P ops oi v a->
   wpAnyIn (Fw ro) n P .any ops Q fuel (listed.setIfInBounds i true) (a.put oi.dst v) w->wpAnyIn (Fw ro) n P .any ops Q (fuel+1) listed a w:=by
 intro fuel
 induction fuel with
 | zero=>
   intro listed a w _ hr hy H
   refine⟨fun h=>(by rw[h] at hr;cases hr),fun j hj=> ?_⟩
   by_cases hji:j=i
   ·subst hji;exact jn (hnd j oi · hi) hi hy H
   ·have:=ready_mono hj hji
    rw[H.1] at this
    cases this
 | succ fuel ih=>
   intro listed a w hfree hr hy H
   refine⟨fun h=>(by rw[h] at hr;cases hr),fun j hj=> ?_⟩
   by_cases hji:j=i
   ·subst hji;exact jn (hnd j oi · hi) hi hy H
   ·have h1:=H.2 j (ready_mono hj hji)
    obtain⟨hjun,oj,hoj,hall⟩:=mem_ready.1 hj
    have hnot:∀e∈oj.after,Region.binds .any e=true->e.on≠i:=fun e he hb heq=>by
     have h1:=hall e he hb
     have h0:=(mem_ready.1 hr).1
     rw[heq] at h1
     rcases aV i listed.size with h' | h'
     ·simp[h'] at h0 h1;rw[h0] at h1;cases h1
     ·simp[Array.getElem?_eq_none h'] at h1
    have h2:=aaR hoj (hfree j oj hoj hji hjun hnot) (fun cs b=>hsel i oi cs b hi) (fun cs b=>hsel j oj cs b hoj) (hnd j oj · hoj) hQ hy h1
    have hfree':∀k ok,ops[k]? =some ok->k≠i->(listed.setIfInBounds j true).getD k true=false->
     (∀e∈ok.after,Region.binds .any e=true->e.on≠i)->oi.apart ops ok=true:=fun k ok hk hki hun hno=>by
     refine hfree k ok hk hki ?_ hno
     by_cases hjk:j=k
     ·subst hjk;exact hjun
     ·rw[getD_set_ne true hjk] at hun;exact hun
    refine wpOpIn_mono (fun a' w' h3=>ih (listed.setIfInBounds j true) a' w' hfree' (ready_mono hr (Ne.symm hji)) h3.1 ?_) h2
    rw[Array.setIfInBounds_comm _ _ hji]
    exact h3.2
theorem sO {f:FuncId} {fn:Func} {c:Code} {args:Array Value} {w:World} {R:Ending->World->Prop} (hf:P.funcs[f]? =some fn) (hb:fn.body=some c)
  (h:c.wpIn (Fw none) 0 P (bodyPost P fn R) {tmps:=args++Array.replicate (fn.ntmps-args.size) undef,defers:=[]} w):Calls P f args w R:=
 hJ.1 (callsIn_of_wp (F:=Fw none) (n:=0) hf hb trivial h)
end
def part (sel:Nat->Bool):Nat->List Rec->Ua->Ua
 | _,[],F=>F
 | i,r::l,F=>part sel (i+1) l (if sel i then F.rec' r else F)
def full (l:List Rec) (F:Ua):Ua:=l.foldl Ua.rec' F
section
variable {P:Program} {U:Env} {n:Nat} {X:List Value} {W0:Wb} {fb:Nat->Option (List C)} {ops:Array Oper} {ro:Option Nat}
theorem ja (sel:Nat->Bool):∀(l m:List Rec) (i:Nat) (F:Ua),part sel i (l++m) F=part sel (i+l.length) m (part sel i l F)
 | [],m,i,F=>rfl
 | r::l,m,i,F=>by
   simp only[List.cons_append,part,List.length_cons]
   rw[ja sel l m (i+1)]
   congr 1
   omega
theorem vn {sel:Nat->Bool}:∀(l:List Rec) (i:Nat) (F:Ua),(∀m,m<l.length->sel (i+m)=true)->part sel i l F=full l F
 | [],_,_,_=>rfl
 | r::l,i,F,h=>by
   have h0:=h 0 (by simp)
   simp only[Nat.add_zero] at h0
   simp only[part,h0,if_true,full,List.foldl_cons]
   exact vn l (i+1) _ (fun m hm=>by rw[Nat.add_assoc,Nat.add_comm 1 m];exact h (m+1) (by simpa using hm))
theorem vm {sel:Nat->Bool}:∀(l:List Rec) (i:Nat) (F:Ua),(∀m,m<l.length->sel (i+m)=false)->part sel i l F=F
 | [],_,_,_=>rfl
 | r::l,i,F,h=>by
   have h0:=h 0 (by simp)
   simp only[Nat.add_zero] at h0
   simp only[part,h0]
   exact vm l (i+1) _ (fun m hm=>by rw[Nat.add_assoc,Nat.add_comm 1 m];exact h (m+1) (by simpa using hm))
theorem kW {sel sel':Nat->Bool}:∀(l:List Rec) (i:Nat) (F:Ua),(∀m,m<l.length->sel (i+m)=sel' (i+m))->part sel i l F=part sel' i l F
 | [],_,_,_=>rfl
 | r::l,i,F,h=>by
   have h0:=h 0 (by simp)
   simp only[Nat.add_zero] at h0
   simp only[part,h0]
   exact kW l (i+1) _ (fun m hm=>by rw[Nat.add_assoc,Nat.add_comm 1 m];exact h (m+1) (by simpa using hm))
theorem oW {r:Rec} {sel:Nat->Bool}:∀(l:List Rec) (i:Nat) (F F':Ua),Agree ops r F F'->(∀(m:Nat) x,l[m]? =some x->sel (i+m)=false->Indep ops x r)->Agree ops r (full l F) (part sel i l F')
 | [],_,_,_,h,_=>h
 | x::l,i,F,F',h,hi=>by
   simp only[full,List.foldl_cons,part]
   have tail:∀(m:Nat) y,l[m]? =some y->sel (i+1+m)=false->Indep ops y r:=fun m y hm hs=>hi (m+1) y (by simpa using hm) (by rw[Nat.add_assoc,Nat.add_comm 1 m] at hs;exact hs)
   by_cases hs:sel i=true
   ·simp only[hs,if_true]
    exact oW l (i+1) _ _ h.congr tail
   ·simp only[hs]
    exact oW l (i+1) _ _ (((Agree.step (hi 0 x rfl (by simpa using hs)) F).symm).trans h) tail
theorem lk {r:Rec} {sel:Nat->Bool}:∀(l:List Rec) (i:Nat) (F F':Ua),Agree ops r F F'->(∀(m:Nat) x,l[m]? =some x->sel (i+m)=true->Indep ops x r)->Agree ops r F (part sel i l F')
 | [],_,_,_,h,_=>h
 | x::l,i,F,F',h,hi=>by
   simp only[part]
   have tail:∀(m:Nat) y,l[m]? =some y->sel (i+1+m)=true->Indep ops y r:=fun m y hm hs=>hi (m+1) y (by simpa using hm) (by rw[Nat.add_assoc,Nat.add_comm 1 m] at hs;exact hs)
   by_cases hs:sel i=true
   ·simp only[hs,if_true]
    exact lk l (i+1) _ _ (h.trans (Agree.step (hi 0 x rfl (by simpa using hs)) F')) tail
   ·simp only[hs]
    exact lk l (i+1) _ _ h tail
theorem sj {r:Rec} {sel:Nat->Bool}:∀(l:List Rec) (i:Nat) (F:Ua),(∀(m:Nat) x,l[m]? =some x->sel (i+m)=true->Indep ops x r)->part sel i l (F.rec' r)=(part sel i l F).rec' r
 | [],_,_,_=>rfl
 | x::l,i,F,hi=>by
   simp only[part]
   have tail:∀(m:Nat) y,l[m]? =some y->sel (i+1+m)=true->Indep ops y r:=fun m y hm hs=>hi (m+1) y (by simpa using hm) (by rw[Nat.add_assoc,Nat.add_comm 1 m] at hs;exact hs)
   by_cases hs:sel i=true
   ·simp only[hs,if_true]
    rw[<-zU (hi 0 x rfl (by simpa using hs))]
    exact sj l (i+1) _ tail
   ·simp only[hs]
    exact sj l (i+1) _ tail
structure RecOk (P:Program) (hw:World->Prop) (U:Env) (n:Nat) (base:Nat) (fb:Nat->Option (List C)) (ops:Array Oper) (r:Rec) (F:Ua):Prop where
 run:r.want=true->∃vw,vw.nid=r.nid/\OpOk P hw U base vw r.o r.eff/\Sees n fb vw r.o r.eff F
 skip:r.want=false->r.eff={val:=.one .undef}
 guard:match r.o.guard with
  | none=>r.want=true
  | some (g,b)=>∃t,(ops[g]?).bind (·.dst)=some t/\t<n/\((∃e:E,F.tmp t=.one (.bool e)/\r.want=(e.B U==b))\/(F.tmp t=.one .undef/\r.want=false))
 dst:∀d,r.o.dst=some d->d<n
theorem RecOk.agree {r:Rec} {F F':Ua} (h:RecOk P W0.hw U n W0.heap.size fb ops r F) (ha:Agree ops r F F'):RecOk P W0.hw U n W0.heap.size fb ops r F':=by
 refine⟨fun hw=> ?_,h.skip,?_,h.dst⟩
 ·obtain⟨vw,hn,h1,h2⟩:=h.run hw
  have hrow:∀b∈r.rid,F.row b=F'.row b:=fun b hb=>ha.row b (List.mem_append_right _ hb)
  refine⟨vw,hn,h1,⟨fun x hx v hv=> ?_,fun p hp c hc=> ?_,fun p hp=> ?_,fun hx=>by rw[hn];exact(ha.nw hx).1 (by rw[<-hn];exact h2.nw hx),fun id hid q hq=> ?_,?_,h2.fb,h2.one⟩⟩
  ·have h3:=h2.ev x hx v hv
   cases x with
   | tmp t=>
     simp only[evF] at h3 ⊢
     rw[<-ha.t t (List.mem_append_left _ (aab hx))]
     exact h3
   | _=>exact h3
  ·rw[<-ha.rd p hp];exact h2.rd p hp c hc
  ·obtain⟨c,hc⟩:=h2.wr p hp
   have:=ha.wr p hp
   rw[hc] at this
   exact Option.isSome_iff_exists.1 this.symm
  ·have:=h2.rr id hid q hq
   unfold rwF at this ⊢
   rw[<-ha.row id (List.mem_append_left _ hid)]
   exact this
  ·have h3:=h2.re
   rw[hn] at h3 ⊢
   unfold Rec.rid at hrow
   revert h3 hrow
   cases r.eff.re with
   | none=>exact fun _ _=>trivial
   | set id q=>intro hrow h3;exact⟨by rw[<-hrow id (by simp[RE.rs])];exact h3.1,h3.2⟩
   | mk rs=>
     intro hrow h3 i hi
     have mem:∀(rs:List RowOb) (nid i:Nat),i<rs.length->nid+i∈(mkRs nid rs).map (·.1):=by
      intro rs
      induction rs with
      | nil=>intro nid i hi;simp at hi
      | cons x rs ih=>
        intro nid i hi
        cases i with
        | zero=>simp[mkRs]
        | succ i=>
          simp only[mkRs,List.map_cons,List.mem_cons]
          right
          rw[show nid+(i+1)=nid+1+i by omega]
          exact ih (nid+1) i (by simpa using hi)
     rw[<-hrow _ (mem rs r.nid i hi)]
     exact h3 i hi
   | app old q=>intro hrow h3;exact⟨by rw[<-hrow old (by simp[RE.rs])];exact h3.1,h3.2.1,by rw[<-hrow r.nid (by simp[RE.rs])];exact h3.2.2.1,h3.2.2.2⟩
   | frz old q0 q=>intro hrow h3;exact⟨by rw[<-hrow old (by simp[RE.rs])];exact h3.1,h3.2.1,h3.2.2.1,by rw[<-hrow r.nid (by simp[RE.rs])];exact h3.2.2.2.1,h3.2.2.2.2⟩
   | tset old q0 tab q=>intro hrow h3;exact⟨by rw[<-hrow old (by simp[RE.rs])];exact h3.1,h3.2.1,by rw[<-hrow tab (by simp[RE.rs])];exact h3.2.2.1,h3.2.2.2⟩
   | peek q=>intro hrow h3;exact⟨h3.1,by rw[<-hrow r.nid (by simp[RE.rs])];exact h3.2⟩
   | view old q0 q=>intro hrow h3;exact⟨by rw[<-hrow old (by simp[RE.rs])];exact h3.1,h3.2.1,h3.2.2.1,by rw[<-hrow r.nid (by simp[RE.rs])];exact h3.2.2.2.1,h3.2.2.2.2⟩
 ·have hg:=h.guard
  cases hgd:r.o.guard with
  | none=>rw[hgd] at hg;exact hg
  | some p=>
    obtain⟨g,b⟩:=p
    rw[hgd] at hg
    obtain⟨t,h1,h2,h3⟩:=hg
    refine⟨t,h1,h2,?_⟩
    have:F.tmp t=F'.tmp t:=ha.t t (List.mem_append_right _ (by simp[gTs,hgd,h1]))
    rw[<-this]
    exact h3
theorem kA {j:J} {a:Act} {w:World} {F:Ua} (h:Rel U n X W0 fb F j a w) {g t:Nat} (ht:(ops[g]?).bind (·.dst)=some t) (hn:t<n):
  (∀e,F.tmp t=.one (.bool e)->yielded ops a.tmps g=some (e.B U))/\(F.tmp t=.one .undef->yielded ops a.tmps g=none):=by
 obtain⟨v,h1,h2⟩:=h.tmp t hn
 constructor
 ·intro e he
  rw[he] at h2
  rcases h2 with h2 | h2
  ·cases h2
  have:=gX h2
  subst this
  simp[yielded,ht,h1]
 ·intro he
  rw[he] at h2
  rcases h2 with h2 | h2
  ·cases h2
  have:v=Go.undef:=(Option.some.inj h2).symm
  subst this
  simp[yielded,ht,h1,Go.undef]
theorem afL {j:J} {a:Act} {w:World} {F:Ua} (h:Rel U n X W0 fb F j a w) {r:Rec} (hr:RecOk P W0.hw U n W0.heap.size fb ops r F) (hwant:r.want=true)
  {K:Act->World->Prop} {Q:Exit->Act->World->Prop} (hK:∀j' a' w',Rel U n X W0 fb (F.rec' r) j' a' w'->K a' w'):r.o.wp P a w K Q:=by
 obtain⟨vw,hn,h1,h2⟩:=hr.run hwant
 exact an8 h h1 h2 hr.dst (by rw[hn];exact hK)
theorem aqk {j:J} {a:Act} {w:World} {F:Ua} (h:Rel U n X W0 fb F j a w) {r:Rec} (hr:RecOk P W0.hw U n W0.heap.size fb ops r F) (hwant:r.want=true):∀c,r.o.op≠.defer c:=
 ajt (afL h hr hwant (fun j' a' w' h'=>h'.defers.trans h.defers.symm))
theorem zS {j:J} {a:Act} {w:World} {F:Ua} (h:Rel U n X W0 fb F j a w) {r:Rec} (hr:RecOk P W0.hw U n W0.heap.size fb ops r F):Region.wanted r.o (yielded ops a.tmps)=r.want:=by
 have hg:=hr.guard
 unfold Region.wanted
 cases hgd:r.o.guard with
 | none=>rw[hgd] at hg;exact hg.symm
 | some p=>
   obtain⟨g,b⟩:=p
   rw[hgd] at hg
   obtain⟨t,h1,h2,h3⟩:=hg
   obtain⟨h4,h5⟩:=kA h h1 h2
   rcases h3 with⟨e,h6,h7⟩ | ⟨h6,h7⟩
   ·simp only[h4 e h6,h7]
    cases e.B U<;>cases b<;>rfl
   ·simp only[h5 h6,h7]
    rfl
theorem jX {j:J} {a:Act} {w:World} {F:Ua} (h:Rel U n X W0 fb F j a w) {r:Rec} (hr:RecOk P W0.hw U n W0.heap.size fb ops r F) {i:Nat} (hi:ops[i]? =some r.o)
  {K:Act->World->Prop} {Q:Exit->Act->World->Prop} (hK:∀j' a' w',Rel U n X W0 fb (F.rec' r) j' a' w'->K a' w'):wpOpIn (Fw ro) 0 P ops Q i K a w:=by
 have hw:=zS h hr
 unfold wpOpIn
 simp only[hi,hw]
 cases hwant:r.want with
 | true=>exact gQ (aqk h hr hwant) (afL h hr hwant hK)
 | false=>
   have he:=hr.skip hwant
   refine⟨fun _ _=>trivial,hK j _ w ?_⟩
   unfold Ua.rec' Ua.app
   rw[he]
   exact h.put rfl hr.dst
theorem pB:∀(post pre:List Rec) (F0:Ua),ops.toList=(pre++post).map (·.o)->(∀(m:Nat) r,post[m]? =some r->RecOk P W0.hw U n W0.heap.size fb ops r (full (pre++post.take m) F0))->
  ∀{Q:Exit->Act->World->Prop} {j:J} {a:Act} {w:World},Rel U n X W0 fb (full pre F0) j a w->(∀j' a' w',Rel U n X W0 fb (full (pre++post) F0) j' a' w'->Q .normal a' w')->wpOpsIn (Fw ro) 0 P ops Q (List.range' pre.length post.length) a w
 | [],pre,F0,hl,hr,Q,j,a,w,h,hQ=>by
   simp only[List.length_nil,List.range'_zero,wpOpsIn]
   exact hQ j a w (by simpa using h)
 | r::post,pre,F0,hl,hr,Q,j,a,w,h,hQ=>by
   simp only[List.length_cons,List.range'_succ]
   rw[wpOpsIn_cons]
   have h0:=hr 0 r rfl
   simp only[List.take_zero,List.append_nil] at h0
   refine jX h h0 ?_ (fun j' a' w' h'=> ?_)
   ·rw[<-iJ,hl]
    simp
   ·have:=pB post (pre++[r]) F0 (by rw[hl];simp) (fun m x hm=>by
     have:=hr (m+1) x (by simpa using hm)
     simpa using this) (Q:=Q) (j:=j') (a:=a') (w:=w') (by simpa[full] using h') (fun j'' a'' w'' h''=>hQ j'' a'' w'' (by simpa using h''))
    simpa using this
def fh (ops:Array Oper) (sel:Nat->Bool):Prop:=∀(i:Nat) o,ops[i]? =some o->sel i=true->∀e∈o.after,Region.binds .any e=true->sel e.on=true
theorem abg {L:List Rec} {F0:Ua} (hl:ops.toList=L.map (·.o)) (hr:∀(m:Nat) r,L[m]? =some r->RecOk P W0.hw U n W0.heap.size fb ops r (full (L.take m) F0))
  (hback:∀(i:Nat) o,ops[i]? =some o->∀e∈o.after,Region.binds .any e=true->e.on<i)
  (hpair:∀(k i:Nat) x r,k<i->L[k]? =some x->L[i]? =some r->Indep ops x r\/∀sel,fh ops sel->(∀o,ops[i]? =some o->∀e∈o.after,Region.binds .any e=true->sel e.on=true)->sel k=true) {Q:Exit->Act->World->Prop}
  (hQ:∀j' a' w',Rel U n X W0 fb (full L F0) j' a' w'->Q .normal a' w'):
  ∀(fuel:Nat) (listed:Array Bool) (j:J) (a:Act) (w:World),listed.size=L.length->fh ops (fun i=>listed.getD i false)->(List.range L.length).countP (fun i=>!listed.getD i false)<=fuel->
   Rel U n X W0 fb (part (fun i=>listed.getD i false) 0 L F0) j a w->wpAnyIn (Fw ro) 0 P .any ops Q fuel listed a w:=by
 have hsz:ops.size=L.length:=by rw[<-Array.length_toList,hl,List.length_map]
 have hop:∀(i:Nat) r,L[i]? =some r->ops[i]? =some r.o:=fun i r hi=>by rw[<-iJ,hl,jq,hi];rfl
 have gd:∀(listed:Array Bool) (i:Nat),listed.size=L.length->i<L.length->listed.getD i true=listed.getD i false:=fun listed i hs hi=>by
  rw[eO,eO,Array.getElem?_eq_getElem (by omega)];rfl
 have done:∀(listed:Array Bool) (j:J) (a:Act) (w:World),listed.size=L.length->fh ops (fun i=>listed.getD i false)->Rel U n X W0 fb (part (fun i=>listed.getD i false) 0 L F0) j a w->Region.ready .any ops listed=[]->Q .normal a w:=by
  intro listed j a w hs hc h hnil
  refine hQ j a w ?_
  have hall:∀i,i<L.length->listed.getD i false=true:=by
   intro i
   induction i using Nat.strongRecOn with
   | _ i ih=>
     intro hi
     cases hb:listed.getD i false with
     | true=>rfl
     | false=>
       exfalso
       have:i∈Region.ready .any ops listed:=by
        unfold Region.ready
        simp only[List.mem_filter,List.mem_range,thm0,Bool.not_eq_true']
        obtain⟨r,hr'⟩:∃r,L[i]? =some r:=⟨L[i],thm6 hi⟩
        have ho:=hop i r hr'
        refine⟨by omega,?_,?_⟩
        ·rw[gd listed i hs hi];exact hb
        ·rw[ho]
         simp only[Option.map_some,Option.getD_some,Array.all_eq_true_iff_forall_mem,bG,Bool.not_eq_true']
         intro e he
         cases hbd:Region.binds .any e with
         | false=>exact .inl rfl
         | true=>
           have hlt:=hback i _ ho e he hbd
           exact .inr (ih e.on hlt (by omega))
       rw[hnil] at this
       cases this
  rw[vn L 0 F0 (fun m hm=>by simpa using hall m hm)] at h
  exact h
 intro fuel
 induction fuel with
 | zero=>
   intro listed j a w hs hc hf h
   have hall:∀i,i<L.length->listed.getD i false=true:=fun i hi=>by
    have:=List.countP_eq_zero.1 (Nat.le_zero.1 hf) i (List.mem_range.2 hi)
    simpa using this
   have hnil:Region.ready .any ops listed=[]:=by
    unfold Region.ready
    rw[List.filter_eq_nil_iff]
    intro i hi
    have hi':i<L.length:=by rw[List.mem_range] at hi;omega
    rw[gd listed i hs hi',hall i hi']
    simp
   exact⟨hnil,done listed j a w hs hc h hnil⟩
 | succ fuel ih=>
   intro listed j a w hs hc hf h
   refine⟨fun hnil=>done listed j a w hs hc h hnil,fun i hi=> ?_⟩
   obtain⟨hun,o,ho,hall⟩:=mem_ready.1 hi
   have hi':i<L.length:=by
    rw[<-hsz]
    rcases aV i ops.size with h1 | h1
    ·exact h1
    ·rw[Array.getElem?_eq_none h1] at ho;cases ho
   obtain⟨r,hr'⟩:∃r,L[i]? =some r:=⟨L[i],thm6 hi'⟩
   have ho':=hop i r hr'
   rw[ho] at ho'
   cases ho'
   have hun':listed.getD i false=false:=by rw[<-gd listed i hs hi'];exact hun
   have hsplit:L=L.take i++r::L.drop (i+1):=by
    rw[thm6 hi'] at hr'
    cases hr'
    simp
   have hlen:(L.take i).length=i:=by simp;omega
   have hpre:∀(m:Nat) x,(L.take i)[m]? =some x->listed.getD (0+m) false=false->Indep ops x r:=by
    intro m x hm hsel
    have hmi:m<i:=by
     rcases aV m i with h1 | h1
     ·exact h1
     ·rw[bB (by omega)] at hm;cases hm
    rw[List.getElem?_take_of_lt hmi] at hm
    rcases hpair m i x r hmi hm hr' with h1 | h1
    ·exact h1
    ·exfalso
     have:=h1 (fun i=>listed.getD i false) hc (fun o' ho2 e he hb=>by
      rw[ho] at ho2;cases ho2
      exact hall e he hb)
     simp only[bn] at hsel
     rw[hsel] at this
     cases this
   have hpost:∀(m:Nat) x,(L.drop (i+1))[m]? =some x->listed.getD (i+1+m) false=true->Indep ops x r:=by
    intro m x hm hsel
    rw[List.getElem?_drop] at hm
    rcases hpair i (i+1+m) r x (by omega) hr' hm with h1 | h1
    ·exact h1.symm
    ·exfalso
     have:=h1 (fun i=>listed.getD i false) hc (fun o' ho2 e he hb=>hc (i+1+m) o' ho2 hsel e he hb)
     rw[hun'] at this
     cases this
   have hF:part (fun i=>listed.getD i false) 0 L F0=part (fun i=>listed.getD i false) (i+1) (L.drop (i+1)) (part (fun i=>listed.getD i false) 0 (L.take i) F0):=by
    conv=>lhs;rw[hsplit]
    rw[ja,hlen,bn]
    simp only[part,hun']
    rfl
   have hag:Agree ops r (full (L.take i) F0) (part (fun i=>listed.getD i false) 0 L F0):=by
    rw[hF]
    exact lk _ _ _ _ (oW _ 0 _ _ (Agree.refl ops r F0) hpre) hpost
   have hok:=(hr i r hr').agree hag
   refine jX h hok ho (fun j' a' w' h'=> ?_)
   have hsz':(listed.setIfInBounds i true).size=L.length:=by simp[hs]
   have hget:∀k,(listed.setIfInBounds i true).getD k false=if k=i then true else listed.getD k false:=by
    intro k
    rw[eO,Array.getElem?_setIfInBounds]
    by_cases hk:k=i
    ·subst hk
     simp[hs,hi']
    ·have hik:¬i=k:=fun e=>hk e.symm
     simp[hk,hik,eO]
   refine ih _ j' a' w' hsz' ?_ ?_ ?_
   ·intro k o' hk hsel e he hb
    simp only[hget] at hsel ⊢
    by_cases hki:k=i
    ·subst hki
     rw[ho] at hk;cases hk
     split
     ·rfl
     ·exact hall e he hb
    ·rw[if_neg hki] at hsel
     split
     ·rfl
     ·exact hc k o' hk hsel e he hb
   ·have:(List.range L.length).countP (fun k=>!(listed.setIfInBounds i true).getD k false)<(List.range L.length).countP (fun k=>!listed.getD k false):=by
     have e1:(List.range L.length)=List.range i++i::(List.range' (i+1) (L.length-(i+1))):=by
      have h1:i::List.range' (i+1) (L.length-(i+1))=List.range' i (L.length-i):=by
       rw[show L.length-i=(L.length-(i+1))+1 by omega,List.range'_succ]
      have h2:=List.range'_append_1 (s:=0) (m:=i) (n:=L.length-i)
      rw[bn,show i+(L.length-i)=L.length by omega] at h2
      rw[h1,List.range_eq_range',List.range_eq_range',h2]
     rw[e1,List.countP_append,List.countP_append,List.countP_cons,List.countP_cons]
     have c1:∀l:List Nat,i ∉ l->l.countP (fun k=>!(listed.setIfInBounds i true).getD k false)=l.countP (fun k=>!listed.getD k false):=by
      intro l hl'
      apply List.countP_congr
      intro k hk
      have:k≠i:=fun e=>hl' (e▸hk)
      simp only[hget,this,if_false]
     rw[c1 _ (by simp),c1 _ (by rw[List.mem_range'_1];omega)]
     simp[hget,hun']
    omega
   ·have:part (fun k=>(listed.setIfInBounds i true).getD k false) 0 L F0=(part (fun i=>listed.getD i false) 0 L F0).rec' r:=by
     rw[hF]
     conv=>lhs;rw[hsplit]
     rw[ja,hlen,bn]
     simp only[part,hget,if_true]
     rw[kW (sel':=fun i=>listed.getD i false) (L.take i) 0 F0 (fun m hm=>by
      have:m≠i:=by rw[hlen] at hm;omega
      simp[this])]
     rw[kW (sel':=fun i=>listed.getD i false) (L.drop (i+1)) (i+1) _ (fun m hm=>by
      have:¬i+1+m=i:=by omega
      simp[this])]
     exact sj _ _ _ hpost
    rw[this]
    exact h'
end
section
variable {P:Program}
def yr (P:Program) (o:Oper) (a:Act):Prop:=∃v,∀w,(execOp a.eval o).run P w=.ok (.value v) w
theorem ph {o:Oper} {x:Operand} (h:o.op=.move x\/o.op=.assign x) (a:Act):yr P o a:=⟨a.eval x,fun w=>by rcases h with h | h<;>simp[execOp,h]⟩
theorem wl {v:Value} (hv:∀ad,v≠.pointer (some ad)) (w:World):∃x w',(Instr.sureAddr v).run P w=.halt x w':=by
 cases v with
 | pointer p=>
   cases p with
   | some ad=>exact absurd rfl (hv ad)
   | none=>exact⟨_,_,rfl⟩
 | _=>exact⟨_,_,rfl⟩
theorem abx {s f:Nat} {v:Value} (hv:∀ad,v≠.pointer (some ad)) (w:World):∃x w',(Instr.fieldAt s v f).run P w=.halt x w':=by
 unfold Instr.fieldAt
 simp only[Sem.run_bind]
 cases h:(underlying s).run P w with
 | halt x w1=>exact⟨x,w1,rfl⟩
 | ok d w1=>
   simp only[Result.andThen_ok]
   split
   ·split
    ·simp only[Sem.run_bind]
     obtain⟨x,w2,h2⟩:=wl hv w1
     rw[h2]
     exact⟨x,w2,rfl⟩
    ·exact⟨_,_,rfl⟩
   ·exact⟨_,_,rfl⟩
theorem wq {o:Oper} {s:Nat} {x:Operand} {f:Nat} (h:o.op=.fieldAddr s x f) {i:TI} (ht:TIok P s i) {off ft:Nat} (hf:i.fields[f]? =some (off,ft)) {a:Act} {w:World} {K:Act->World->Prop} (hw:o.wp P a w K fun _ _ _=>False):yr P o a:=by
 by_cases hx:∃ad,a.eval x=.pointer (some ad)
 ·obtain⟨ad,hx⟩:=hx
  exact⟨.pointer (some (ad.add off)),fun w=>by simp[execOp,h,hx,Sem.run_bind,ht.fieldAt f off ft hf w ad]⟩
 ·exfalso
  obtain⟨y,w',h2⟩:=abx (P:=P) (s:=s) (f:=f) (v:=a.eval x) (fun ad e=>hx ⟨ad,e⟩) w
  unfold Oper.wp at hw
  simp only[execOp,h,Sem.run_bind,h2] at hw
  cases y<;>exact hw
def Alike {α:Type} (P:Program) (s:Sem α):Prop:=(∃v,∀w,s.run P w=.ok v w)\/∀w,∃x w',s.run P w=.halt x w'
theorem Alike.pure {α:Type} (a:α):Alike P (Pure.pure a:Sem α):=.inl ⟨a,fun _=>rfl⟩
theorem Alike.stuck {α:Type} (m:String):Alike P (Go.stuck m:Sem α):=.inr fun w=>⟨_,_,rfl⟩
theorem Alike.unsup {α:Type} (u:Unsupported):Alike P (Go.unsupported u:Sem α):=.inr fun w=>⟨_,_,rfl⟩
theorem Alike.bind {α β:Type} {s:Sem α} {f:α->Sem β} (h:Alike P s) (hf:∀v,Alike P (f v)):Alike P (s >>= f):=by
 rcases h with⟨v,h⟩ | h
 ·rcases hf v with⟨u,h2⟩ | h2
  ·exact .inl ⟨u,fun w=>by rw[Sem.run_bind,h];exact h2 w⟩
  ·exact .inr fun w=>by rw[Sem.run_bind,h];exact h2 w
 ·refine .inr fun w=> ?_
  obtain⟨x,w',h1⟩:=h w
  exact⟨x,w',by rw[Sem.run_bind,h1];rfl⟩
theorem Alike.info (t:TypeId):Alike P (typeInfo t):=by
 cases h:P.info? t with
 | some i=>exact .inl ⟨i,fun w=>by simp[typeInfo,h]⟩
 | none=>exact .inr fun w=>⟨.stuck "no such type",w,by simp[typeInfo,h]⟩
theorem Alike.und (t:TypeId):Alike P (underlying t):=by
 cases h:P.underlying t with
 | some i=>exact .inl ⟨i,fun w=>by simp[underlying,h]⟩
 | none=>exact .inr fun w=>⟨.stuck "no such type",w,by simp[underlying,h]⟩
theorem Alike.size (t:TypeId):Alike P (sizeOf t):=(Alike.info t).bind fun _=>.pure _
theorem Alike.agg (t:TypeId):Alike P (isAgg t):=(Alike.und t).bind fun d=>by split<;>exact .pure _
theorem Alike.int (v:Value):Alike P (asIntOf v):=by
 unfold asIntOf
 split
 ·exact .pure _
 ·exact .unsup _
 ·exact .stuck _
theorem Alike.addr (v:Value):Alike P (Instr.sureAddr v):=by
 unfold Instr.sureAddr
 split
 ·exact .pure _
 ·exact .stuck _
theorem jd {α:Type} (w:World):∃x w',(runtimePanic .nilDeref:Sem α).run P w=.halt x w':=⟨_,_,rfl⟩
theorem qc {α:Type} (x y:Int) (b:Bool) (c:BoundsCode) (w:World):∃h w',(runtimePanic (.bounds x y b c):Sem α).run P w=.halt h w':=⟨_,_,rfl⟩
theorem agZ {α:Type} (k:IntKind) (x y:Int) (c:BoundsCode) (w:World):∃h w',(boundsPanic k x y c:Sem α).run P w=.halt h w':=by
 unfold boundsPanic
 dsimp only
 split
 ·rw[Sem.run_bind]
  cases hq:(Functor.map (· ==1) (choose (.extern "runtime.boundsError.signed" 2))).run P w with
  | ok b w1=>exact qc _ _ b c w1
  | halt h w1=>exact⟨h,w1,rfl⟩
 ·rw[Sem.run_bind]
  exact qc _ _ _ c w
theorem Alike.bounds {α:Type} (k:IntKind) (x y:Int) (c:BoundsCode):Alike P (boundsPanic k x y c:Sem α):=.inr (agZ k x y c)
theorem Alike.part (t:TypeId) (cs:Array Value) (off:Nat):Alike P (Go.part t cs off):=by
 unfold Go.part
 refine(Alike.agg t).bind fun b=> ?_
 split
 ·exact(Alike.size t).bind fun _=>.pure _
 ·split
  ·exact .pure _
  ·exact .stuck _
theorem Alike.blind:∀(l:List FieldStep) (t:TypeId) (x:Option Value),Alike P (followBlind l t x)
 | [],t,x=>.pure _
 | s::rest,t,x=>by
   unfold followBlind
   refine(Alike.und _).bind fun d=> ?_
   split
   ·split
    ·split
     ·exact .pure _
     ·exact Alike.blind rest _ _
     ·exact .stuck _
     ·exact .pure _
     ·exact(Alike.part _ _ _).bind fun _=>Alike.blind rest _ _
     ·exact .stuck _
     ·exact Alike.blind rest _ _
    ·exact .stuck _
   ·exact .stuck _
theorem Alike.nil:∀(n:Nat) (t:TypeId) (v:Value) (name:String),Alike P (nilAhead n t v name)
 | 0,t,v,name=>.pure _
 | n+1,t,v,name=>by
   unfold nilAhead
   refine(Alike.info _).bind fun i=> ?_
   split
   ·refine(Alike.blind _ _ _).bind fun r=> ?_
    split
    ·exact .pure _
    ·split
     ·exact Alike.nil n _ _ _
     ·exact .pure _
     ·exact .stuck _
     ·exact .pure _
     ·exact .pure _
     ·refine(Alike.und _).bind fun d=> ?_
      split<;>exact .pure _
   ·exact .stuck _
theorem Alike.index (t:TypeId) (x y:Value):Alike P (Instr.indexAt t x y):=by
 unfold Instr.indexAt
 refine(Alike.int y).bind fun p=> ?_
 refine(Alike.und t).bind fun d=> ?_
 dsimp only
 split
 ·refine(Alike.addr _).bind fun a=>(Alike.pure _).bind fun q=> ?_
  obtain⟨b,l,e⟩:=q
  refine(Alike.und t).bind fun d=> ?_
  dsimp only
  split
  ·split
   ·exact(Alike.size _).bind fun _=>.pure _
   ·repeat (first | exact .unsup _ | exact .bounds _ _ _ _ | split)
  ·exact .bounds _ _ _ _
 ·refine(Alike.pure _).bind fun q=> ?_
  obtain⟨b,l,e⟩:=q
  refine(Alike.und t).bind fun d=> ?_
  dsimp only
  split
  ·split
   ·exact(Alike.size _).bind fun _=>.pure _
   ·repeat (first | exact .unsup _ | exact .bounds _ _ _ _ | split)
  ·exact .bounds _ _ _ _
 ·refine(Alike.stuck _).bind fun q=> ?_
  obtain⟨b,l,e⟩:=q
  refine(Alike.und t).bind fun d=> ?_
  dsimp only
  split
  ·split
   ·exact(Alike.size _).bind fun _=>.pure _
   ·repeat (first | exact .unsup _ | exact .bounds _ _ _ _ | split)
  ·exact .bounds _ _ _ _
theorem Alike.bound (x:Value) (y:Nat) (c:BoundsCode):Alike P (Instr.sliceBound x y c):=by
 unfold Instr.sliceBound
 refine(Alike.int x).bind fun p=> ?_
 dsimp only
 split
 ·exact .pure _
 ·exact .bounds _ _ _ _
theorem Alike.bounds3 (b:Bool) (n c:Nat) (l h m:Option Value):Alike P (Instr.sliceBounds b n c l h m):=by
 unfold Instr.sliceBounds
 cases m<;>cases h<;>cases l<;>dsimp only<;>
  (repeat (first | exact .pure _ | refine Alike.bind (.pure _) fun _=> ?_ | refine Alike.bind (.bound _ _ _) fun _=> ?_ | refine Alike.bind (.stuck _) fun _=> ?_))
theorem Alike.asAddr (v:Value):Alike P (Go.asAddr v):=by
 unfold Go.asAddr
 split
 ·exact .pure _
 ·exact .inr fun w=>jd w
 ·exact .stuck _
theorem Alike.slice0 (t:TypeId) (x:Value) (l h m:Option Value):Alike P (Instr.slice t x l h m):=by
 unfold Instr.slice
 refine(Alike.und t).bind fun d=> ?_
 split
 ·dsimp only
  split
  ·exact(Alike.stuck _).bind fun _=>(Alike.bounds3 _ _ _ _ _ _).bind fun _=>.pure _
  ·exact(Alike.bounds3 _ _ _ _ _ _).bind fun _=>.pure _
 ·exact(Alike.bounds3 _ _ _ _ _ _).bind fun _=>(Alike.size _).bind fun _=>.pure _
 ·refine(Alike.asAddr _).bind fun a=>(Alike.und _).bind fun d=> ?_
  split
  ·exact(Alike.bounds3 _ _ _ _ _ _).bind fun _=>(Alike.size _).bind fun _=>.pure _
  ·exact .stuck _
 ·exact .stuck _
theorem Alike.slice (t:TypeId) (x:Value) (l h m:Option Value):Alike P (Instr.sliceAt t x l h m):=by
 unfold Instr.sliceAt
 refine(Alike.und t).bind fun d=> ?_
 split
 ·exact(Alike.addr _).bind fun _=>(Alike.bounds3 _ _ _ _ _ _).bind fun _=>(Alike.size _).bind fun _=>.pure _
 ·exact .slice0 _ _ _ _ _
theorem iK {o:Oper} {a:Act} (h:Alike P (execOp a.eval o)) (hv:∀v w w',(execOp a.eval o).run P w=.ok v w'->∃u,v=.value u) {w:World} {K:Act->World->Prop} (hw:o.wp P a w K fun _ _ _=>False):yr P o a:=by
 rcases h with⟨v,h⟩ | h
 ·obtain⟨u,rfl⟩:=hv v w w (h w)
  exact⟨u,h⟩
 ·exfalso
  obtain⟨x,w',h2⟩:=h w
  unfold Oper.wp at hw
  rw[h2] at hw
  cases x<;>exact hw
theorem wo {o:Oper} {t:Nat} {x y:Operand} (h:o.op=.indexAddr t x y) {a:Act} {w:World} {K:Act->World->Prop} (hw:o.wp P a w K fun _ _ _=>False):yr P o a:=by
 refine iK ?_ (fun v w w' hv=> ?_) hw
 ·simp only[execOp,h]
  exact(Alike.index _ _ _).bind fun _=>.pure _
 ·simp only[execOp,h,Sem.run_bind] at hv
  cases hq:(Instr.indexAt t (a.eval x) (a.eval y)).run P w with
  | ok u w1=>rw[hq] at hv;cases hv;exact⟨u,rfl⟩
  | halt u w1=>rw[hq] at hv;cases hv
theorem wm {o:Oper} {t:Nat} {x:Operand} {l h' m:Option Operand} (h:o.op=.slice t x l h' m) {a:Act} {w:World} {K:Act->World->Prop} (hw:o.wp P a w K fun _ _ _=>False):yr P o a:=by
 refine iK ?_ (fun v w w' hv=> ?_) hw
 ·simp only[execOp,h]
  exact(Alike.slice _ _ _ _ _).bind fun _=>.pure _
 ·simp only[execOp,h,Sem.run_bind] at hv
  revert hv
  generalize (Instr.sliceAt _ _ _ _ _).run P w=r
  intro hv
  cases r with
  | ok u w1=>cases hv;exact⟨u,rfl⟩
  | halt u w1=>cases hv
theorem ada {o:Oper} {x:Operand} (h:o.op=.nilCheck x) {a:Act} {w:World} {K:Act->World->Prop} (hw:o.wp P a w K fun _ _ _=>False):yr P o a:=by
 have nd:Alike P (runtimePanic .nilDeref:Sem Next):=.inr fun w=>jd w
 refine iK ?_ (fun v w w' hv=> ?_) hw
 ·simp only[execOp,h]
  split
  ·exact nd
  ·exact nd
  ·exact nd
  ·split
   ·exact nd
   ·refine Alike.bind (.inl ⟨P,fun _=>rfl⟩) fun p=> ?_
    refine(Alike.nil _ _ _ _).bind fun r=> ?_
    split
    ·exact Alike.bind (.unsup _) fun _=>.pure _
    ·exact .pure _
   ·exact .pure _
  ·exact .pure _
 ·have no:∀{w1:World},(runtimePanic .nilDeref:Sem Next).run P w1=.ok v w'->False:=fun {w1} h=>by
   obtain⟨x,w2,e⟩:=jd (P:=P) (α:=Next) w1
   rw[e] at h;cases h
  simp only[execOp,h] at hv
  split at hv
  ·exact(no hv).elim
  ·exact(no hv).elim
  ·exact(no hv).elim
  ·split at hv
   ·exact(no hv).elim
   ·simp only[Sem.run_bind,run_program,Result.andThen_ok] at hv
    revert hv
    generalize (nilAhead _ _ _ _).run P w=r
    intro hv
    cases r with
    | halt x w1=>cases hv
    | ok b w1=>
      simp only[Result.andThen_ok] at hv
      split at hv
      ·cases hv
      ·cases hv;exact⟨_,rfl⟩
   ·cases hv;exact⟨_,rfl⟩
  ·cases hv;exact⟨_,rfl⟩
end
def cm (sel:Nat->Bool):List (Nat×Rec)->Ua->Ua
 | [],F=>F
 | p::l,F=>cm sel l (if sel p.1 then F.rec' p.2 else F)
def o7 (l:List (Nat×Rec)) (F:Ua):Ua:=l.foldl (fun F p=>F.rec' p.2) F
def cnt (ops:Array Oper) (l:Array Bool):Nat:=(List.range ops.size).countP fun i=>!l.getD i false
def ahc (ops:Array Oper) (k i:Nat):Prop:=∀sel,fh ops sel->(∀o,ops[i]? =some o->∀e∈o.after,Region.binds .any e=true->sel e.on=true)->sel k=true
section
variable {P:Program} {U:Env} {n:Nat} {X:List Value} {W0:Wb} {fb:Nat->Option (List C)} {ops:Array Oper} {ro:Option Nat}
theorem gE (sel:Nat->Bool):∀(l m:List (Nat×Rec)) (F:Ua),cm sel (l++m) F=cm sel m (cm sel l F)
 | [],m,F=>rfl
 | p::l,m,F=>by simp only[List.cons_append,cm];exact gE sel l m _
theorem kX {sel:Nat->Bool}:∀(l:List (Nat×Rec)) (F:Ua),(∀p∈l,sel p.1=true)->cm sel l F=o7 l F
 | [],_,_=>rfl
 | p::l,F,h=>by
   simp only[cm,h p bA,if_true,o7,List.foldl_cons]
   exact kX l _ (fun q hq=>h q (bZ _ hq))
theorem pC {sel:Nat->Bool}:∀(l:List (Nat×Rec)) (F:Ua),(∀p∈l,sel p.1=false)->cm sel l F=F
 | [],_,_=>rfl
 | p::l,F,h=>by
   simp only[cm,h p bA]
   exact pC l _ (fun q hq=>h q (bZ _ hq))
theorem jb {sel sel':Nat->Bool}:∀(l:List (Nat×Rec)) (F:Ua),(∀p∈l,sel p.1=sel' p.1)->cm sel l F=cm sel' l F
 | [],_,_=>rfl
 | p::l,F,h=>by
   simp only[cm,h p bA]
   exact jb l _ (fun q hq=>h q (bZ _ hq))
theorem lm {r:Rec} {sel:Nat->Bool}:∀(l:List (Nat×Rec)) (F F':Ua),Agree ops r F F'->(∀p∈l,sel p.1=false->Indep ops p.2 r)->Agree ops r (o7 l F) (cm sel l F')
 | [],_,_,h,_=>h
 | x::l,F,F',h,hi=>by
   simp only[o7,List.foldl_cons,cm]
   have tail:∀p∈l,sel p.1=false->Indep ops p.2 r:=fun p hp=>hi p (bZ _ hp)
   by_cases hs:sel x.1=true
   ·simp only[hs,if_true]
    exact lm l _ _ h.congr tail
   ·simp only[hs]
    exact lm l _ _ (((Agree.step (hi x bA (by simpa using hs)) F).symm).trans h) tail
theorem jm {r:Rec} {sel:Nat->Bool}:∀(l:List (Nat×Rec)) (F F':Ua),Agree ops r F F'->(∀p∈l,sel p.1=true->Indep ops p.2 r)->Agree ops r F (cm sel l F')
 | [],_,_,h,_=>h
 | x::l,F,F',h,hi=>by
   simp only[cm]
   have tail:∀p∈l,sel p.1=true->Indep ops p.2 r:=fun p hp=>hi p (bZ _ hp)
   by_cases hs:sel x.1=true
   ·simp only[hs,if_true]
    exact jm l _ _ (h.trans (Agree.step (hi x bA hs) F')) tail
   ·simp only[hs]
    exact jm l _ _ h tail
theorem ov {r:Rec} {sel:Nat->Bool}:∀(l:List (Nat×Rec)) (F:Ua),(∀p∈l,sel p.1=true->Indep ops p.2 r)->cm sel l (F.rec' r)=(cm sel l F).rec' r
 | [],_,_=>rfl
 | x::l,F,hi=>by
   simp only[cm]
   have tail:∀p∈l,sel p.1=true->Indep ops p.2 r:=fun p hp=>hi p (bZ _ hp)
   by_cases hs:sel x.1=true
   ·simp only[hs,if_true]
    rw[<-zU (hi x bA hs)]
    exact ov l _ tail
   ·simp only[hs]
    exact ov l _ tail
structure Float (P:Program) (ops:Array Oper) (sel:Nat->Bool) (i:Nat) (o:Oper):Prop where
 still:∀a w K,o.wp P a w K (fun _ _ _=>False)->yr P o a
 guard:o.guard=none
 nosel:Region.noSelect ops=true
 free:∀(k:Nat) ok,ops[k]? =some ok->k≠i->sel k=false->(∀e∈ok.after,Region.binds .any e=true->e.on≠i)->o.apart ops ok=true
def ahW (base:Nat->Bool) (L:List (Nat×Rec)) (i:Nat) (k:Nat):Bool:=base k||L.any fun q=>Nat.beq q.1 k&&Nat.blt k i
theorem sM {listed:Array Bool} {i:Nat} (hs:listed.size=ops.size) (hi:i<ops.size) (hun:listed.getD i false=false):cnt ops (listed.setIfInBounds i true)<cnt ops listed:=by
 have hget:∀k,(listed.setIfInBounds i true).getD k false=if k=i then true else listed.getD k false:=by
  intro k
  rw[eO,Array.getElem?_setIfInBounds]
  by_cases hk:k=i
  ·subst hk;simp[hs,hi]
  ·have hik:¬i=k:=fun e=>hk e.symm
   simp[hk,hik,eO]
 unfold cnt
 have e1:(List.range ops.size)=List.range i++i::(List.range' (i+1) (ops.size-(i+1))):=by
  have h1:i::List.range' (i+1) (ops.size-(i+1))=List.range' i (ops.size-i):=by
   rw[show ops.size-i=(ops.size-(i+1))+1 by omega,List.range'_succ]
  have h2:=List.range'_append_1 (s:=0) (m:=i) (n:=ops.size-i)
  rw[bn,show i+(ops.size-i)=ops.size by omega] at h2
  rw[h1,List.range_eq_range',List.range_eq_range',h2]
 rw[e1,List.countP_append,List.countP_append,List.countP_cons,List.countP_cons]
 have c1:∀l:List Nat,i ∉ l->l.countP (fun k=>!(listed.setIfInBounds i true).getD k false)=l.countP (fun k=>!listed.getD k false):=by
  intro l hl'
  apply List.countP_congr
  intro k hk
  have:k≠i:=fun e=>hl' (e▸hk)
  simp only[hget,this,if_false]
 rw[c1 _ (by simp),c1 _ (by rw[List.mem_range'_1];omega)]
 simp[hget,hun]
theorem qa {listed:Array Bool} {i:Nat} {o:Oper} (hs:listed.size=ops.size) (ho:ops[i]? =some o) (hc:fh ops (fun i=>listed.getD i false)) (hall:∀e∈o.after,Region.binds .any e=true->listed.getD e.on false=true):
  fh ops (fun k=>(listed.setIfInBounds i true).getD k false):=by
 have hi:i<ops.size:=(ey.1 ho).1
 intro k o' hk hsel e he hb
 by_cases hki:k=i
 ·subst hki
  rw[ho] at hk;cases hk
  exact getD_set_true (hall e he hb)
 ·dsimp only at hsel
  rw[getD_set_ne false (Ne.symm hki)] at hsel
  exact getD_set_true (hc k o' hk hsel e he hb)
theorem ama {L:List (Nat×Rec)} {F0:Ua} {base:Nat->Bool} {Q:Exit->Act->World->Prop} (hQ:∀c a w,¬Q (.panic c) a w) (hdf:∀(j:Nat) (o:Oper) c,ops[j]? =some o->o.op≠.defer c)
  (hop:∀p∈L,ops[p.1]? =some p.2.o) (hnd:(L.map (·.1)).Nodup)
  (hr:∀(m:Nat) p,L[m]? =some p->RecOk P W0.hw U n W0.heap.size fb ops p.2 (o7 (L.take m) F0))
  (hpair:∀(m q:Nat) x r,m<q->L[m]? =some x->L[q]? =some r->Indep ops x.2 r.2\/ahc ops x.1 r.1)
  (hback:∀p∈L,∀e∈p.2.o.after,Region.binds .any e=true->e.on<p.1/\(base e.on=true\/∃q∈L,q.1=e.on))
  (hout:∀i,i<ops.size->base i=false->(∀p∈L,p.1≠i)->∀p∈L,Float P ops (ahW base L p.1) p.1 p.2.o\/ahc ops p.1 i)
  (hend:∀(listed:Array Bool) (j:J) (a:Act) (w:World),listed.size=ops.size->fh ops (fun i=>listed.getD i false)->(∀i,listed.getD i false=true↔(base i=true\/∃p∈L,p.1=i))->
   Rel U n X W0 fb (o7 L F0) j a w->∀fuel,cnt ops listed<=fuel->wpAnyIn (Fw ro) 0 P .any ops Q fuel listed a w):
  ∀(N:Nat) (listed:Array Bool) (j:J) (a:Act) (w:World),L.countP (fun p=>!listed.getD p.1 false)<=N->listed.size=ops.size->fh ops (fun i=>listed.getD i false)->
   (∀i,listed.getD i false=true->base i=true\/∃p∈L,p.1=i)->(∀i,base i=true->listed.getD i false=true)->
   Rel U n X W0 fb (cm (fun i=>listed.getD i false) L F0) j a w->∀fuel,cnt ops listed<=fuel->wpAnyIn (Fw ro) 0 P .any ops Q fuel listed a w:=by
 have all_or:∀(listed:Array Bool),(∀p∈L,listed.getD p.1 false=true)\/∃p∈L,listed.getD p.1 false=false/\∀q∈L,listed.getD q.1 false=false->p.1<=q.1:=by
  intro listed
  by_cases h:∃p∈L,listed.getD p.1 false=false
  ·right
   have key:∀(k:Nat),(∃p∈L,listed.getD p.1 false=false/\p.1<=k)->∃p∈L,listed.getD p.1 false=false/\∀q∈L,listed.getD q.1 false=false->p.1<=q.1:=by
    intro k
    induction k using Nat.strongRecOn with
    | _ k ih=>
      rintro ⟨p,hp,hu,hk⟩
      by_cases hm:∃q∈L,listed.getD q.1 false=false/\q.1<p.1
      ·obtain⟨q,hq,hqu,hlt⟩:=hm
       exact ih q.1 (by omega) ⟨q,hq,hqu,Nat.le_refl _⟩
      ·refine⟨p,hp,hu,fun q hq hqu=> ?_⟩
       rcases aV q.1 p.1 with h1 | h1
       ·exact absurd ⟨q,hq,hqu,h1⟩ hm
       ·exact h1
   obtain⟨p,hp,hu⟩:=h
   exact key p.1 ⟨p,hp,hu,Nat.le_refl _⟩
  ·left
   intro p hp
   cases hb:listed.getD p.1 false with
   | true=>rfl
   | false=>exact absurd ⟨p,hp,hb⟩ h
 have idx:∀{p q:Nat×Rec},p∈L->q∈L->p.1=q.1->p=q:=by
  intro p q hp hq e
  obtain⟨m,hm⟩:=List.getElem?_of_mem hp
  obtain⟨m',hm'⟩:=List.getElem?_of_mem hq
  have h1:(L.map (·.1))[m]? =some p.1:=by rw[jq,hm];rfl
  have h2:(L.map (·.1))[m']? =some p.1:=by rw[jq,hm',e];rfl
  have:m=m':=(List.getElem?_inj (bR.1 h1).1 hnd).1 (h1.trans h2.symm)
  subst this
  rw[hm] at hm'
  cases hm'
  rfl
 intro N
 induction N with
 | zero=>
   intro listed j a w hN hs hc hsub hbase h fuel hf
   have hall:∀p∈L,listed.getD p.1 false=true:=fun p hp=>by
    have:=List.countP_eq_zero.1 (Nat.le_zero.1 hN) p hp
    simpa using this
   rw[kX L F0 hall] at h
   exact hend listed j a w hs hc (fun i=>⟨hsub i,fun h=>by
    rcases h with h | ⟨p,hp,rfl⟩
    ·exact hbase i h
    ·exact hall p hp⟩) h fuel hf
 | succ N ih=>
   intro listed j a w hN hs hc hsub hbase h fuel hf
   rcases all_or listed with hall | ⟨p0,hp0,hu0,hmin⟩
   ·rw[kX L F0 hall] at h
    exact hend listed j a w hs hc (fun i=>⟨hsub i,fun h=>by
    rcases h with h | ⟨p,hp,rfl⟩
    ·exact hbase i h
    ·exact hall p hp⟩) h fuel hf
   have gd:∀i,i<ops.size->listed.getD i true=listed.getD i false:=fun i hi=>by
    rw[eO,eO,Array.getElem?_eq_getElem (by omega)];rfl
   have lt0:p0.1<ops.size:=(ey.1 (hop p0 hp0)).1
   have ready0:p0.1∈Region.ready .any ops listed:=by
    rw[mem_ready]
    refine⟨by rw[gd _ lt0];exact hu0,p0.2.o,hop p0 hp0,fun e he hb=> ?_⟩
    obtain⟨h1,h2⟩:=hback p0 hp0 e he hb
    rcases h2 with h2 | ⟨q,hq,e1⟩
    ·exact hbase _ h2
    ·cases hb2:listed.getD e.on false with
     | true=>rfl
     | false=>
       have:=hmin q hq (by rw[e1];exact hb2)
       omega
   obtain⟨fuel,rfl⟩:∃f,fuel=f+1:=by
    cases fuel with
    | zero=>have:=sM (ops:=ops) hs lt0 hu0;omega
    | succ f=>exact⟨f,rfl⟩
   have step:∀p∈L,listed.getD p.1 false=false->(∀e∈p.2.o.after,Region.binds .any e=true->listed.getD e.on false=true)->
    RecOk P W0.hw U n W0.heap.size fb ops p.2 (cm (fun i=>listed.getD i false) L F0)/\
    ∀j' a' w',Rel U n X W0 fb ((cm (fun i=>listed.getD i false) L F0).rec' p.2) j' a' w'->wpAnyIn (Fw ro) 0 P .any ops Q fuel (listed.setIfInBounds p.1 true) a' w':=by
    intro p hp hun hall
    obtain⟨m,hm⟩:=List.getElem?_of_mem hp
    have hml:m<L.length:=(bR.1 hm).1
    have hsplit:L=L.take m++p::L.drop (m+1):=by
     rw[thm6 hml] at hm
     cases hm
     simp
    have hpre:∀q∈L.take m,listed.getD q.1 false=false->Indep ops q.2 p.2:=by
     intro q hq hsel
     obtain⟨k,hk⟩:=List.getElem?_of_mem hq
     have hkm:k<m:=by
      have:=(bR.1 hk).1
      rw[List.length_take] at this
      omega
     rw[List.getElem?_take_of_lt hkm] at hk
     rcases hpair k m q p hkm hk hm with h1 | h1
     ·exact h1
     ·exfalso
      have:=h1 (fun i=>listed.getD i false) hc (fun o' ho2 e he hb=>by
       rw[hop p hp] at ho2;cases ho2
       exact hall e he hb)
      (try dsimp only at this)
      rw[hsel] at this
      cases this
    have hpost:∀q∈L.drop (m+1),listed.getD q.1 false=true->Indep ops q.2 p.2:=by
     intro q hq hsel
     obtain⟨k,hk⟩:=List.getElem?_of_mem hq
     rw[List.getElem?_drop] at hk
     rcases hpair m (m+1+k) p q (by omega) hm hk with h1 | h1
     ·exact h1.symm
     ·exfalso
      have:=h1 (fun i=>listed.getD i false) hc (fun o' ho2 e he hb=>hc q.1 o' ho2 hsel e he hb)
      (try dsimp only at this)
      rw[hun] at this
      cases this
    have hF:cm (fun i=>listed.getD i false) L F0=cm (fun i=>listed.getD i false) (L.drop (m+1)) (cm (fun i=>listed.getD i false) (L.take m) F0):=by
     conv=>lhs;rw[hsplit]
     rw[gE]
     simp only[cm,hun]
     rfl
    have hag:Agree ops p.2 (o7 (L.take m) F0) (cm (fun i=>listed.getD i false) L F0):=by
     rw[hF]
     exact jm _ _ _ (lm _ _ _ (Agree.refl ops p.2 F0) hpre) hpost
    refine⟨(hr m p hm).agree hag,fun j' a' w' h'=> ?_⟩
    have hpi:p.1<ops.size:=(ey.1 (hop p hp)).1
    have hget:∀k,(listed.setIfInBounds p.1 true).getD k false=if k=p.1 then true else listed.getD k false:=by
     intro k
     rw[eO,Array.getElem?_setIfInBounds]
     by_cases hk:k=p.1
     ·subst hk;simp[hs,hpi]
     ·have hik:¬p.1=k:=fun e=>hk e.symm
      simp[hk,hik,eO]
    have notin:∀q,q∈L.take m\/q∈L.drop (m+1)->q.1≠p.1:=by
     intro q hq e
     have hqL:q∈L:=by
      rcases hq with hq | hq
      ·exact List.mem_of_mem_take hq
      ·exact List.mem_of_mem_drop hq
     have e2:=idx hqL hp e
     subst e2
     have hnd':=hnd
     rw[hsplit,List.map_append,List.map_cons] at hnd'
     rw[List.nodup_append] at hnd'
     obtain⟨_,h2,h3⟩:=hnd'
     rcases hq with hq | hq
     ·exact h3 _ (List.mem_map.2 ⟨q,hq,rfl⟩) _ bA rfl
     ·exact(List.nodup_cons.1 h2).1 (List.mem_map.2 ⟨q,hq,rfl⟩)
    refine ih (listed.setIfInBounds p.1 true) j' a' w' ?_ (by simp[hs]) (qa hs (hop p hp) hc hall) (fun i hi=> ?_) (fun i hi=>getD_set_true (hbase i hi)) ?_ fuel (by have:=sM (ops:=ops) hs hpi hun;omega)
    ·have:L.countP (fun q=>!(listed.setIfInBounds p.1 true).getD q.1 false)<L.countP (fun q=>!listed.getD q.1 false):=by
      rw[hsplit,List.countP_append,List.countP_append,List.countP_cons,List.countP_cons]
      have c1:∀l:List (Nat×Rec),(∀q∈l,q.1≠p.1)->l.countP (fun q=>!(listed.setIfInBounds p.1 true).getD q.1 false)=l.countP (fun q=>!listed.getD q.1 false):=by
       intro l hl'
       apply List.countP_congr
       intro q hq
       simp only[hget,hl' q hq,if_false]
      rw[c1 _ (fun q hq=>notin q (.inl hq)),c1 _ (fun q hq=>notin q (.inr hq))]
      simp[hget,hun]
     omega
    ·rw[hget] at hi
     split at hi
     ·rename_i e;subst e;exact .inr ⟨p,hp,rfl⟩
     ·exact hsub i hi
    ·have:cm (fun k=>(listed.setIfInBounds p.1 true).getD k false) L F0=(cm (fun i=>listed.getD i false) L F0).rec' p.2:=by
      rw[hF]
      conv=>lhs;rw[hsplit]
      rw[gE]
      simp only[cm,hget,if_true]
      rw[jb (sel':=fun i=>listed.getD i false) (L.take m) F0 (fun q hq=>by
       simp[notin q (.inl hq)])]
      rw[jb (sel':=fun i=>listed.getD i false) (L.drop (m+1)) _ (fun q hq=>by
       simp[notin q (.inr hq)])]
      exact ov _ _ hpost
     rw[this]
     exact h'
   by_cases hfl:Float P ops (ahW base L p0.1) p0.1 p0.2.o
   ·
    obtain⟨hrec,hgo⟩:=step p0 hp0 hu0 (fun e he hb=>by
     obtain⟨_,o,ho,hall⟩:=mem_ready.1 ready0
     rw[hop p0 hp0] at ho;cases ho
     exact hall e he hb)
    have hwnt:p0.2.want=true:=by
     rw[<-zS h hrec]
     simp[Region.wanted,hfl.guard]
    have h1:=afL (Q:=fun _ _ _=>False) h hrec hwnt (K:=fun a' w'=>∃j',Rel U n X W0 fb ((cm (fun i=>listed.getD i false) L F0).rec' p0.2) j' a' w') (fun j' a' w' h'=>⟨j',h'⟩)
    have hwant:Region.wanted p0.2.o (yielded ops a.tmps)=true:=by simp[Region.wanted,hfl.guard]
    ·obtain⟨v,hv⟩:=hfl.still a w _ h1
     have h2:=h1
     unfold Oper.wp at h2
     rw[hv w] at h2
     obtain⟨j',h3⟩:∃j',Rel U n X W0 fb ((cm (fun i=>listed.getD i false) L F0).rec' p0.2) j' (a.put p0.2.o.dst v) w:=h2
     refine qk (hop p0 hp0) (Region.noSelect_spec hfl.nosel) hdf (fun c a w h=>absurd h (hQ c _ w)) fuel listed a w (fun k ok hk hne hun hno=> ?_) ready0 (.inl ⟨hwant,hv⟩) (hgo j' _ w h3)
     refine hfl.free k ok hk hne ?_ hno
     have hkl:k<ops.size:=(ey.1 hk).1
     rw[gd k hkl] at hun
     cases hsk:ahW base L p0.1 k with
     | false=>rfl
     | true=>
       exfalso
       simp only[ahW,bG,List.any_eq_true,thm0,Nat.blt_eq] at hsk
       rcases hsk with h4 | ⟨q,hq,h4,h5⟩
       ·rw[hbase k h4] at hun;cases hun
       ·have e1:=thm1 h4
        have:=hmin q hq (by rw[e1];exact hun)
        omega
   ·refine⟨fun hnil=>(by rw[hnil] at ready0;cases ready0),fun i hi=> ?_⟩
    obtain⟨hun,o,ho,hall⟩:=mem_ready.1 hi
    have hi':i<ops.size:=(ey.1 ho).1
    rw[gd i hi'] at hun
    have hin:∃p∈L,p.1=i:=by
     by_cases hh:∃p∈L,p.1=i
     ·exact hh
     ·exfalso
      have hb:base i=false:=by
       cases hb:base i with
       | false=>rfl
       | true=>rw[hbase i hb] at hun;cases hun
      rcases hout i hi' hb (fun p hp e=>hh ⟨p,hp,e⟩) p0 hp0 with h1 | h1
      ·exact hfl h1
      ·have:=h1 (fun i=>listed.getD i false) hc (fun o' ho2 e he hb2=>by
        rw[ho] at ho2;cases ho2
        exact hall e he hb2)
       (try dsimp only at this)
       rw[hu0] at this
       cases this
    obtain⟨p,hp,rfl⟩:=hin
    rw[hop p hp] at ho;cases ho
    obtain⟨hrec,hgo⟩:=step p hp hun hall
    exact jX h hrec (hop p hp) (fun j' a' w' h'=>hgo j' a' w' h')
end
def evS (n:Nat) (tmps:TM):Operand->Option V
 | .tmp t=>if Nat.blt t n then(match tmps.get? t with
   | some .top=>none
   | x=>x) else none
 | .const v=>ofValue v
 | .global _=>none
 | .func f=>some (.one (.fn f))
def ldS (heap:List Ob) (b o:Nat):Option C:=match heap[b]? with
 | some (.box cs _)=>cs[o]?
 | _=>none
def rwS (heap:List Ob) (id:Nat):Option RowOb:=match heap[id]? with
 | some (.row r)=>some r
 | _=>none
def Cx.fbs (cx:Cx) (b:Nat):Option (List C):=cx.fb[b]?
def rowS (heap:List Ob) (b o n:Nat):Option (List C):=match heap[b]? with
 | some (.box cs _)=>seg cs o n
 | _=>none
theorem afA {heap:List Ob} (b o n:Nat) (ds:List C) (h:rowS heap b o n=some ds):gC (ldS heap) b o n=some ds:=by
 unfold rowS at h
 split at h
 ·rename_i cs ty hb
  have:=adA (ld:=ldS heap) (b:=b) (k:=0) h (fun i=>by simp[ldS,hb])
  rwa [bn] at this
 ·cases h
def St.vw (cx:Cx) (s:St):Vw:=⟨evS s.n s.tmps,ldS s.heap,rwS s.heap,cx.fbs,s.heap.length,rowS s.heap,afA⟩
def boxH (heap:List Ob) (b:Nat):Option (List C×Nat):=match heap[b]? with
 | some (.box cs ty)=>some (cs,ty)
 | _=>none
def rowH (heap:List Ob) (b:Nat):Option (Option RowOb):=match heap[b]? with
 | some (.row r)=>some (some r)
 | some .gone=>some none
 | _=>none
def lpH (heap:List Ob) (b:Nat):Option Lp:=match heap[b]? with
 | some (.loop y)=>some y
 | _=>none
def Ob.noLp:Ob->Bool
 | .loop _=>false
 | _=>true
theorem je {heap:List Ob} {b:Nat} {ob ob':Ob} (h:heap[b]? =some ob) (h1:ob.noLp=true) (h2:ob'.noLp=true) (x:Nat):lpH (heap.set b ob') x=lpH heap x:=by
 unfold lpH
 rw[cO]
 by_cases hb:b=x
 ·subst hb
  rw[if_pos rfl,if_pos (bR.1 h).1,h]
  cases ob<;>cases ob'<;>first | rfl | (cases h1;done) | (cases h2;done)
 ·rw[if_neg hb]
theorem dC {heap l:List Ob} (h:∀ob∈l,ob.noLp=true) (x:Nat):lpH (heap++l) x=lpH heap x:=by
 unfold lpH
 rcases aV x heap.length with h1 | h1
 ·rw[thm8 h1]
 ·rw[thm9 h1,bB h1]
  cases hl:l[x-heap.length]? with
  | none=>rfl
  | some ob=>
    have:=h ob (ez hl)
    cases ob<;>first | rfl | cases this
def fsOf (tm:Nat->V) (heap:List Ob):Ua:=⟨tm,boxH heap,rowH heap,lpH heap⟩
def St.fs (s:St):Ua:=fsOf (fun t=>(s.tmps.get? t).getD (.one .undef)) s.heap
def wrsS:List (Nat×Nat×C)->List Ob->Option (List Ob)
 | [],h=>some h
 | (b,o,c)::l,h=>match h[b]? with
   | some (.box cs ty)=>if o<cs.length then wrsS l (h.set b (.box (cs.set o c) ty)) else none
   | _=>none
def runW (b:Nat):Nat->List (Nat×Nat×C)->Option (List C)
 | _,[]=>some []
 | o,(b',o',c)::l=>if Nat.beq b b'&&Nat.beq o o' then(runW b (o+1) l).map (c::·) else none
def oq:List C->Nat->List C->Option (List C)
 | cs,0,[]=>some cs
 | _::cs,0,v::vs=>(oq cs 0 vs).map (v::·)
 | c::cs,o+1,vs=>(oq cs o vs).map (c::·)
 | [],_,_=>none
def wrsF (l:List (Nat×Nat×C)) (h:List Ob):Option (List Ob):=
 match l with
 | (b,o,c)::l'=>(match runW b o ((b,o,c)::l') with
   | some vs=>(match h[b]? with
     | some (.box cs ty)=>(oq cs o vs).map fun ds=>h.set b (.box ds ty)
     | _=>none)
   | none=>wrsS ((b,o,c)::l') h)
 | []=>some h
theorem afz:∀{l:List (Nat×Nat×C)} {b o:Nat} {vs:List C},runW b o l=some vs->l=dp b o vs
 | [],b,o,vs,h=>by cases h;rfl
 | (b',o',c)::l,b,o,vs,h=>by
   simp only[runW] at h
   split at h
   ·rename_i hb
    simp only[thm0] at hb
    rw[thm4] at h
    obtain⟨us,h1,rfl⟩:=h
    rw[afz h1,<-thm1 hb.1,<-thm1 hb.2]
    rfl
   ·cases h
theorem om:∀{cs:List C} {o:Nat} {vs ds:List C},oq cs o vs=some ds->o+vs.length<=cs.length/\∀n,(n<o\/o+vs.length<=n->ds[n]? =cs[n]?)/\(o<=n->n<o+vs.length->ds[n]? =vs[n-o]?)
 | cs,0,[],ds,h=>by
   have:cs=ds:=by cases cs<;>simpa[oq] using h
   subst this
   exact⟨by simp,fun n=>⟨fun _=>rfl,fun _ h=>by simp at h⟩⟩
 | c::cs,0,v::vs,ds,h=>by
   simp only[oq,thm4] at h
   obtain⟨us,h1,rfl⟩:=h
   obtain⟨h2,h3⟩:=om h1
   refine⟨by simp only[List.length_cons];omega,fun n=>⟨fun hn=> ?_,fun _ hn=> ?_⟩⟩
   ·cases n with
    | zero=>simp only[List.length_cons] at hn;omega
    | succ n=>simp only[lS];exact(h3 n).1 (by simp only[List.length_cons] at hn;omega)
   ·cases n with
    | zero=>rfl
    | succ n=>
      have:=(h3 n).2 (Nat.zero_le _) (by simp only[List.length_cons] at hn;omega)
      simpa using this
 | c::cs,o+1,vs,ds,h=>by
   simp only[oq,thm4] at h
   obtain⟨us,h1,rfl⟩:=h
   obtain⟨h2,h3⟩:=om h1
   refine⟨by simp only[List.length_cons];omega,fun n=>⟨fun hn=> ?_,fun h4 hn=> ?_⟩⟩
   ·cases n with
    | zero=>rfl
    | succ n=>simp only[lS];exact(h3 n).1 (by omega)
   ·cases n with
    | zero=>omega
    | succ n=>
      simp only[lS,Nat.add_sub_add_right]
      exact(h3 n).2 (by omega) (by omega)
 | [],0,v::vs,ds,h=>by cases h
 | [],o+1,vs,ds,h=>by cases h
theorem yu:∀{vs:List C} {b o:Nat} {h:List Ob} {cs:List C} {ty:Nat},h[b]? =some (.box cs ty)->o+vs.length<=cs.length->wrsS (dp b o vs) h=some (h.set b (.box (ip cs o vs) ty))
 | [],b,o,h,cs,ty,hb,hl=>by
   simp only[dp,wrsS,ip]
   congr 1
   apply List.ext_getElem?
   intro n
   rw[cO]
   split
   ·rename_i hn
    subst hn
    rw[if_pos (bR.1 hb).1];exact hb
   ·rfl
 | v::vs,b,o,h,cs,ty,hb,hl=>by
   have hlt:b<h.length:=(bR.1 hb).1
   simp only[List.length_cons] at hl
   simp only[dp,wrsS,hb]
   rw[if_pos (by omega),yu (cs:=cs.set o v) (ty:=ty) (by rw[cO];simp[hlt]) (by simp;omega)]
   simp only[ip,List.set_set]
theorem pn:∀(vs cs:List C) (o n:Nat),o+vs.length<=cs.length->(ip cs o vs)[n]? =if o<=n/\n<o+vs.length then vs[n-o]? else cs[n]?
 | [],cs,o,n,_=>by simp only[ip,List.length_nil];rw[if_neg (by omega)]
 | v::vs,cs,o,n,hl=>by
   simp only[List.length_cons] at hl ⊢
   rw[ip,pn vs (cs.set o v) (o+1) n (by simp;omega)]
   by_cases h1:o+1<=n/\n<o+1+vs.length
   ·rw[if_pos h1,if_pos (by omega),show n-o=(n-(o+1))+1 by omega];rfl
   ·rw[if_neg h1,cO]
    by_cases h2:o=n
    ·subst h2
     rw[if_pos rfl,if_pos (by omega),if_pos (by omega),Nat.sub_self];rfl
    ·rw[if_neg h2,if_neg (by omega)]
theorem alL {l:List (Nat×Nat×C)} {h h':List Ob} (e:wrsF l h=some h'):wrsS l h=some h':=by
 unfold wrsF at e
 split at e
 ·split at e
  ·rename_i vs hrun
   split at e
   ·rename_i cs ty hb
    rw[thm4] at e
    obtain⟨ds,h1,rfl⟩:=e
    obtain⟨h2,h3⟩:=om h1
    rw[afz hrun,yu hb h2]
    congr 2
    congr 1
    apply List.ext_getElem?
    intro n
    rw[pn _ _ _ _ h2]
    split
    ·rename_i hn;exact((h3 n).2 hn.1 hn.2).symm
    ·rename_i hn;exact((h3 n).1 (by omega)).symm
   ·cases e
  ·exact e
 ·exact e
def xY (heap:List Ob) (eff:Eff):Option (List Ob):=
 match eff.al,eff.re with
 | some x,.none=>(match eff.wr with | []=>some (heap++[.box x.1 x.2]) | _=>none)
 | none,.none=>wrsF eff.wr heap
 | none,.set id r=>(match eff.wr,heap[id]? with
   | [],some (.row q)=>if q.own&&r.own then some (heap.set id (.row r)) else none
   | _,_=>none)
 | none,.mk rs=>(match eff.wr with | []=>some (heap++rs.map .row) | _=>none)
 | none,.app old r=>(match eff.wr,heap[old]? with
   | [],some (.row q)=>if q.own&&r.own then some (heap.set old .gone++[.row r]) else none
   | _,_=>none)
 | none,.view old q r=>(match eff.wr,heap[old]? with
   | [],some (.row _)=>if !q.own &&!r.own then some (heap.set old (.row q)++[.row r]) else none
   | _,_=>none)
 | none,.frz old q r=>(match eff.wr,heap[old]? with
   | [],some (.row q0)=>if q0.own&&(!q.own&&r.own) then some (heap.set old (.row q)++[.row r]) else none
   | _,_=>none)
 | none,.tset old q tab r=>(match eff.wr,heap[old]?,heap[tab]? with
   | [],some (.row q0),some (.row r0)=>if(q0.own &&!q.own)&&((r0.own&&r.own) &&!Nat.beq tab old) then some ((heap.set old (.row q)).set tab (.row r)) else none
   | _,_,_=>none)
 | none,.peek r=>(match eff.wr with
   | []=>if !r.own then some (heap++[.row r]) else none
   | _=>none)
 | _,_=>none
def St.app (s:St) (dst:Option Nat) (eff:Eff):Option St:=
 match xY s.heap eff with
 | none=>none
 | some h=>match dst with
   | none=>some ⟨s.tmps,h⟩
   | some d=>if Nat.blt d s.n then some ⟨s.tmps.set d eff.val,h⟩ else none
theorem agB (s:St) (hn:s.n<=s.tmps.length) (x:Operand):evF s.fs s.n x=evS s.n s.tmps x:=by
 cases x with
 | tmp t=>
   simp only[evF,evS,St.fs,fsOf]
   by_cases h:t<s.n
   ·obtain⟨v,h2⟩:=TM.get_some (Nat.lt_of_lt_of_le h hn)
    rw[if_pos h,if_pos (by simpa[Nat.blt_eq] using h),h2]
    simp only[Option.getD_some]
    cases v<;>rfl
   ·rw[if_neg h,if_neg (by simpa[Nat.blt_eq] using h)]
 | _=>rfl
theorem xQ (s:St) (b o:Nat):ldF s.fs b o=ldS s.heap b o:=by
 simp only[ldF,St.fs,fsOf,boxH,ldS]
 split<;>rfl
theorem kS (s:St) (id:Nat):rwF s.fs id=rwS s.heap id:=by
 simp only[rwF,St.fs,fsOf,rowH,rwS]
 split<;>simp_all
theorem ab2:∀(l:List (Nat×Nat×C)) (h h':List Ob) (tm:Nat->V),wrsS l h=some h'->fsOf tm h'=Ua.wrs (fsOf tm h) l/\∀p∈l,∃c,ldF (fsOf tm h) p.1 p.2.1=some c
 | [],h,h',tm,e=>by cases e;exact⟨rfl,fun p hp=>by cases hp⟩
 | (b,o,c)::l,h,h',tm,e=>by
   simp only[wrsS] at e
   split at e
   ·rename_i cs ty hb
    split at e
    ·rename_i ho
     obtain⟨h1,h2⟩:=ab2 l _ h' tm e
     have hblt:b<h.length:=(bR.1 hb).1
     have hw:fsOf tm (h.set b (.box (cs.set o c) ty))=Ua.wr (fsOf tm h) (b,o,c):=by
      refine Ua.ext' (fun _=>rfl) (fun b'=> ?_) (fun b'=> ?_) (fun b'=>je hb rfl rfl b')
      ·simp only[Ua.wr,fsOf,boxH,cO]
       by_cases hbb:b'=b
       ·subst hbb
        simp only[if_true,hblt,hb,Option.map_some]
       ·simp[hbb,show¬b=b' from fun e=>hbb e.symm]
      ·simp only[Ua.wr,fsOf,rowH,cO]
       by_cases hbb:b=b'
       ·subst hbb
        simp only[if_true,hblt,hb]
       ·simp[hbb]
     refine⟨by rw[h1,hw];rfl,fun p hp=> ?_⟩
     rcases List.mem_cons.1 hp with rfl | hp
     ·exact⟨cs[o],by simp[ldF,fsOf,boxH,hb,thm6 ho]⟩
     ·obtain⟨c',hc'⟩:=h2 p hp
      rw[hw,vB] at hc'
      split at hc'
      ·rw[thm4] at hc'
       obtain⟨x,hx,_⟩:=hc'
       exact⟨x,hx⟩
      ·exact⟨c',hc'⟩
    ·cases e
   ·cases e
theorem pz {heap:List Ob} {b:Nat} {r:RowOb} (h:heap[b]? =some (.row r)):rowH heap b=some (some r)/\boxH heap b=none/\b<heap.length:=
 ⟨by simp[rowH,h],by simp[boxH,h],(bR.1 h).1⟩
theorem gF {heap:List Ob} {b:Nat} (h:heap.length<=b):rowH heap b=none/\boxH heap b=none:=
 ⟨by simp[rowH,bB h],by simp[boxH,bB h]⟩
theorem abt {heap heap':List Ob} {eff:Eff} (h:xY heap eff=some heap') (tm:Nat->V):
  fsOf tm heap'=((match eff.al with | some x=>(fsOf tm heap).new heap.length x | none=>(fsOf tm heap).wrs eff.wr).rws (eff.re.rs heap.length))/\(∀p∈eff.wr,∃c,ldF (fsOf tm heap) p.1 p.2.1=some c)/\ReOk (fsOf tm heap) heap.length eff.re/\((eff.al=none/\eff.wr=[])\/eff.re=.none):=by
 unfold xY at h
 split at h
 ·rename_i x hal hre
  split at h
  ·rename_i hwr
   cases h
   rw[hal,hre,hwr]
   refine⟨?_,fun p hp=>(by cases hp),trivial,.inr rfl⟩
   refine Ua.ext' (fun _=>rfl) (fun b=> ?_) (fun b=> ?_) (fun b=>dC (fun ob hob=>by rw[dk.1 hob];rfl) b)
   ·simp only[Ua.new,Ua.rws,RE.rs,List.foldl_nil,fsOf,boxH]
    by_cases hb:b=heap.length
    ·subst hb;simp
    ·rcases aV b heap.length with h1 | h1
     ·rw[thm8 h1];simp[hb]
     ·rw[bB (by simp;omega),bB h1];simp[hb]
   ·simp only[Ua.new,Ua.rws,RE.rs,List.foldl_nil,fsOf,rowH]
    by_cases hb:b=heap.length
    ·subst hb;simp
    ·rcases aV b heap.length with h1 | h1
     ·rw[thm8 h1]
     ·rw[bB (by simp;omega),bB h1]
  ·cases h
 ·rename_i hal hre
  rw[hal,hre]
  obtain⟨h1,h2⟩:=ab2 eff.wr heap heap' tm (alL h)
  exact⟨h1,h2,trivial,.inr rfl⟩
 ·rename_i id r hal hre
  split at h
  ·rename_i q hwr hq
   split at h
   ·rename_i ho
    rw[thm0] at ho
    cases h
    rw[hal,hre,hwr]
    obtain⟨r1,r2,r3⟩:=pz hq
    refine⟨?_,fun p hp=>(by cases hp),⟨⟨q,r1,ho.1⟩,ho.2⟩,.inl ⟨rfl,rfl⟩⟩
    refine Ua.ext' (fun _=>rfl) (fun b=> ?_) (fun b=> ?_) (fun b=>je hq rfl rfl b)
    ·simp only[Ua.wrs,Ua.rws,RE.rs,List.foldl_nil,List.foldl_cons,Ua.rw1,fsOf,boxH,cO]
     by_cases hb:id=b
     ·subst hb;simp only[if_true,r3,hq]
     ·simp[hb]
    ·simp only[Ua.wrs,Ua.rws,RE.rs,List.foldl_nil,List.foldl_cons,Ua.rw1,fsOf,rowH,cO]
     by_cases hb:id=b
     ·subst hb;simp[r3]
     ·simp[hb,show¬b=id from fun e=>hb e.symm]
   ·cases h
  ·cases h
 ·rename_i rs hal hre
  split at h
  ·rename_i hwr
   cases h
   rw[hal,hre,hwr]
   refine⟨?_,fun p hp=>(by cases hp),fun i hi=>(gF (by omega)).1,.inl ⟨rfl,rfl⟩⟩
   refine Ua.ext' (fun t=> ?_) (fun b=> ?_) (fun b=> ?_) (fun b=> ?_)
   ·rw[(aN _ _).2.1];rfl
   ·rw[(aN _ _).1]
    simp only[Ua.wrs,List.foldl_nil,fsOf,boxH]
    rcases aV b heap.length with h1 | h1
    ·rw[thm8 h1]
    ·rw[thm9 h1,jq,bB h1]
     cases rs[b-heap.length]? <;>rfl
   ·show _=((fsOf tm heap).rws (mkRs heap.length rs)).row b
    rw[kg]
    simp only[fsOf,rowH]
    rcases aV b heap.length with h1 | h1
    ·rw[thm8 h1,if_neg (by omega)]
    ·rw[thm9 h1,jq]
     by_cases h2:b<heap.length+rs.length
     ·rw[if_pos ⟨h1,h2⟩,thm6 (by omega)]
      rfl
     ·rw[if_neg (by omega),bB (by omega),bB h1]
      rfl
   ·rw[(aN _ _).2.2]
    exact dC (fun ob hob=>by obtain⟨r,_,rfl⟩:=List.mem_map.1 hob;rfl) b
  ·cases h
 ·rename_i old r hal hre
  split at h
  ·rename_i q hwr hq
   split at h
   ·rename_i ho
    rw[thm0] at ho
    cases h
    rw[hal,hre,hwr]
    obtain⟨r1,r2,r3⟩:=pz hq
    refine⟨?_,fun p hp=>(by cases hp),⟨⟨q,r1,ho.1⟩,ho.2,(gF (Nat.le_refl _)).1,by omega⟩,.inl ⟨rfl,rfl⟩⟩
    refine Ua.ext' (fun _=>rfl) (fun b=> ?_) (fun b=> ?_) (fun b=>(dC (fun ob hob=>by rw[dk.1 hob];rfl) b).trans (je hq rfl rfl b))
    ·simp only[Ua.wrs,Ua.rws,RE.rs,List.foldl_nil,List.foldl_cons,Ua.rw1,fsOf,boxH]
     rcases aV b heap.length with h1 | h1
     ·rw[thm8 (by simpa using h1),cO]
      by_cases hb:old=b
      ·subst hb;simp only[if_true,r3,hq]
      ·simp[hb]
     ·rw[thm9 (by simpa using h1),bB h1]
      simp only[List.length_set]
      cases h2:b-heap.length<;>simp
    ·simp only[Ua.wrs,Ua.rws,RE.rs,List.foldl_nil,List.foldl_cons,Ua.rw1,fsOf,rowH]
     rcases aV b heap.length with h1 | h1
     ·rw[thm8 (by simpa using h1),cO,if_neg (show¬b=heap.length by omega)]
      by_cases hb:old=b
      ·subst hb;simp[r3]
      ·simp[hb,show¬b=old from fun e=>hb e.symm]
     ·rw[thm9 (by simpa using h1),bB h1]
      simp only[List.length_set]
      by_cases h2:b=heap.length
      ·subst h2;simp
      ·rw[if_neg h2,if_neg (show¬b=old by omega)]
       rw[bB (by simp;omega)]
   ·cases h
  ·cases h
 ·rename_i old q r hal hre
  split at h
  ·rename_i q0 hwr hq
   split at h
   ·rename_i ho
    rw[thm0] at ho
    cases h
    rw[hal,hre,hwr]
    obtain⟨r1,r2,r3⟩:=pz hq
    refine⟨?_,fun p hp=>(by cases hp),⟨⟨q0,r1⟩,by simpa using ho.1,by simpa using ho.2,(gF (Nat.le_refl _)).1,by omega⟩,.inl ⟨rfl,rfl⟩⟩
    refine Ua.ext' (fun _=>rfl) (fun b=> ?_) (fun b=> ?_) (fun b=>(dC (fun ob hob=>by rw[dk.1 hob];rfl) b).trans (je hq rfl rfl b))
    ·simp only[Ua.wrs,Ua.rws,RE.rs,List.foldl_nil,List.foldl_cons,Ua.rw1,fsOf,boxH]
     rcases aV b heap.length with h1 | h1
     ·rw[thm8 (by simpa using h1),cO]
      by_cases hb:old=b
      ·subst hb;simp only[if_true,r3,hq]
      ·simp[hb]
     ·rw[thm9 (by simpa using h1),bB h1]
      simp only[List.length_set]
      cases h2:b-heap.length<;>simp
    ·simp only[Ua.wrs,Ua.rws,RE.rs,List.foldl_nil,List.foldl_cons,Ua.rw1,fsOf,rowH]
     rcases aV b heap.length with h1 | h1
     ·rw[thm8 (by simpa using h1),cO,if_neg (show¬b=heap.length by omega)]
      by_cases hb:old=b
      ·subst hb;simp[r3]
      ·simp[hb,show¬b=old from fun e=>hb e.symm]
     ·rw[thm9 (by simpa using h1),bB h1]
      simp only[List.length_set]
      by_cases h2:b=heap.length
      ·subst h2;simp
      ·rw[if_neg h2,if_neg (show¬b=old by omega)]
       rw[bB (by simp;omega)]
   ·cases h
  ·cases h
 ·rename_i old q r hal hre
  split at h
  ·rename_i q0 hwr hq
   split at h
   ·rename_i ho
    simp only[thm0] at ho
    cases h
    rw[hal,hre,hwr]
    obtain⟨r1,r2,r3⟩:=pz hq
    refine⟨?_,fun p hp=>(by cases hp),⟨⟨q0,r1,ho.1⟩,by simpa using ho.2.1,ho.2.2,(gF (Nat.le_refl _)).1,by omega⟩,.inl ⟨rfl,rfl⟩⟩
    refine Ua.ext' (fun _=>rfl) (fun b=> ?_) (fun b=> ?_) (fun b=>(dC (fun ob hob=>by rw[dk.1 hob];rfl) b).trans (je hq rfl rfl b))
    ·simp only[Ua.wrs,Ua.rws,RE.rs,List.foldl_nil,List.foldl_cons,Ua.rw1,fsOf,boxH]
     rcases aV b heap.length with h1 | h1
     ·rw[thm8 (by simpa using h1),cO]
      by_cases hb:old=b
      ·subst hb;simp only[if_true,r3,hq]
      ·simp[hb]
     ·rw[thm9 (by simpa using h1),bB h1]
      simp only[List.length_set]
      cases h2:b-heap.length<;>simp
    ·simp only[Ua.wrs,Ua.rws,RE.rs,List.foldl_nil,List.foldl_cons,Ua.rw1,fsOf,rowH]
     rcases aV b heap.length with h1 | h1
     ·rw[thm8 (by simpa using h1),cO,if_neg (show¬b=heap.length by omega)]
      by_cases hb:old=b
      ·subst hb;simp[r3]
      ·simp[hb,show¬b=old from fun e=>hb e.symm]
     ·rw[thm9 (by simpa using h1),bB h1]
      simp only[List.length_set]
      by_cases h2:b=heap.length
      ·subst h2;simp
      ·rw[if_neg h2,if_neg (show¬b=old by omega)]
       rw[bB (by simp;omega)]
   ·cases h
  ·cases h
 ·rename_i old q tab r hal hre
  split at h
  ·rename_i q0 r0 hwr hq hr0
   split at h
   ·rename_i ho
    simp only[thm0,Bool.not_eq_true'] at ho
    have hne:tab≠old:=fun e=>by have:=ho.2.2;rw[e] at this;simp at this
    cases h
    rw[hal,hre,hwr]
    obtain⟨r1,r2,r3⟩:=pz hq
    obtain⟨t1,t2,t3⟩:=pz hr0
    have hr1:(heap.set old (.row q))[tab]? =some (.row r0):=by rw[cO,if_neg (fun e=>hne e.symm)];exact hr0
    refine⟨?_,fun p hp=>(by cases hp),⟨⟨q0,r1,ho.1.1⟩,ho.1.2,⟨r0,t1,ho.2.1.1⟩,ho.2.1.2,hne⟩,.inl ⟨rfl,rfl⟩⟩
    refine Ua.ext' (fun _=>rfl) (fun b=> ?_) (fun b=> ?_) (fun b=>(je hr1 rfl rfl b).trans (je hq rfl rfl b))
    ·simp only[Ua.wrs,Ua.rws,RE.rs,List.foldl_nil,List.foldl_cons,Ua.rw1,fsOf,boxH,cO,List.length_set]
     by_cases hb:tab=b
     ·subst hb;simp only[if_true,t3,hr0]
     ·simp only[if_neg hb]
      by_cases hb2:old=b
      ·subst hb2;simp only[if_true,r3,hq]
      ·simp[hb2]
    ·simp only[Ua.wrs,Ua.rws,RE.rs,List.foldl_nil,List.foldl_cons,Ua.rw1,fsOf,rowH,cO,List.length_set]
     by_cases hb:tab=b
     ·subst hb;simp[t3]
     ·simp only[if_neg hb,if_neg (fun e:b=tab=>hb e.symm)]
      by_cases hb2:old=b
      ·subst hb2;simp[r3]
      ·simp[hb2,show¬b=old from fun e=>hb2 e.symm]
   ·cases h
  ·cases h
 ·rename_i r hal hre
  split at h
  ·rename_i hwr
   split at h
   ·rename_i ho
    cases h
    rw[hal,hre,hwr]
    refine⟨?_,fun p hp=>(by cases hp),⟨by simpa using ho,(gF (Nat.le_refl _)).1⟩,.inl ⟨rfl,rfl⟩⟩
    refine Ua.ext' (fun _=>rfl) (fun b=> ?_) (fun b=> ?_) (fun b=>dC (fun ob hob=>by rw[dk.1 hob];rfl) b)
    ·simp only[Ua.wrs,Ua.rws,RE.rs,List.foldl_nil,List.foldl_cons,Ua.rw1,fsOf,boxH]
     rcases aV b heap.length with h1 | h1
     ·rw[thm8 h1]
     ·rw[thm9 h1,bB h1]
      cases h2:b-heap.length<;>simp
    ·simp only[Ua.wrs,Ua.rws,RE.rs,List.foldl_nil,List.foldl_cons,Ua.rw1,fsOf,rowH]
     rcases aV b heap.length with h1 | h1
     ·rw[thm8 h1,if_neg (show¬b=heap.length by omega)]
     ·rw[thm9 h1,bB h1]
      by_cases h2:b=heap.length
      ·subst h2;simp
      ·rw[if_neg h2,bB (by simp;omega)]
   ·cases h
  ·cases h
 ·cases h
theorem St.app_ok {s s':St} (hn:s.n<=s.tmps.length) {dst:Option Nat} {eff:Eff} (h:s.app dst eff=some s'):s'.fs=s.fs.app dst s.heap.length eff/\(s'.tmps.length=s.tmps.length/\s'.n=s.n)/\(∀d,dst=some d->d<s.n)/\(∀p∈eff.wr,∃c,ldF s.fs p.1 p.2.1=some c)/\ReOk s.fs s.heap.length eff.re/\((eff.al=none/\eff.wr=[])\/eff.re=.none):=by
 unfold St.app at h
 split at h
 ·cases h
 ·rename_i hp heq
  obtain⟨h1,h2,h3,h4⟩:=abt heq (fun t=>(s.tmps.get? t).getD (.one .undef))
  have key:∀dst,(fsOf (fun t=>(s.tmps.get? t).getD (.one .undef)) hp).put dst eff.val=s.fs.app dst s.heap.length eff:=fun dst=>by
   unfold Ua.app
   rw[h1]
   rfl
  split at h
  ·cases h
   refine⟨?_,⟨rfl,rfl⟩,fun d hd=>(by cases hd),h2,h3,h4⟩
   rw[<-key]
   refine Ua.ext' (fun t=> ?_) (fun _=>rfl) (fun _=>rfl) (fun _=>rfl)
   simp[Ua.put,St.fs,fsOf]
  ·rename_i d
   split at h
   ·rename_i hd
    have hd:d<s.n:=by simpa[Nat.blt_eq] using hd
    cases h
    refine⟨?_,⟨rfl,rfl⟩,fun d' hd'=>(by cases hd';exact hd),h2,h3,h4⟩
    rw[<-key]
    refine Ua.ext' (fun t=> ?_) (fun _=>rfl) (fun _=>rfl) (fun _=>rfl)
    simp only[Ua.put,St.fs,fsOf,TM.get_set s.tmps eff.val hd]
    by_cases ht:d=t
    ·subst ht;simp
    ·simp[ht]
   ·cases h
def opsK (cx:Cx) (ops:Array Oper):List Oper->St->Kw->(List Rec->St->Kw->Tr)->Tr
 | [],s,kw,k=>k [] s kw
 | o::l,s,kw,k=>
   match o.guard with
   | none=>opKT cx (s.vw cx) o.op kw fun eff kw=>
     match s.app o.dst eff with
     | some s'=>opsK cx ops l s' kw fun rs s'' kw=>k (⟨o,true,s.heap.length,eff⟩::rs) s'' kw
     | none=>.stuck 60
   | some (g,b)=>
     match((ops[g]?).bind (·.dst)).bind (fun t=>if Nat.blt t s.n then s.tmps.get? t else none) with
     | some (.one (.bool e))=>decK e (fun x kw=>
       if x==b then opKT cx (s.vw cx) o.op kw fun eff kw=>
        match s.app o.dst eff with
        | some s'=>opsK cx ops l s' kw fun rs s'' kw=>k (⟨o,true,s.heap.length,eff⟩::rs) s'' kw
        | none=>.stuck 60
       else match s.app o.dst {val:=.one .undef} with
        | some s'=>opsK cx ops l s' kw fun rs s'' kw=>k (⟨o,false,s.heap.length,{val:=.one .undef}⟩::rs) s'' kw
        | none=>.stuck 60) kw
     | some (.one .undef)=>match s.app o.dst {val:=.one .undef} with
      | some s'=>opsK cx ops l s' kw fun rs s'' kw=>k (⟨o,false,s.heap.length,{val:=.one .undef}⟩::rs) s'' kw
      | none=>.stuck 60
     | _=>.stuck 61
section
variable {P:Program} {sp:Spec} {U:Env} {G:Env->E->Prop} {I:Nat->List Dt->Prop} {cx:Cx} {base:Nat}
theorem kY (hT:∀t i,(t,i)∈cx.ty->TIok P t i) (hS:∀s∈cx.sm,SmOk P sp s) (hkeys:∀s∈cx.sm,∀s'∈cx.sm,s.key=s'.key->s=s') {hw:World->Prop} (hW:sp.hw=hw) {ops:Array Oper}:
  ∀(l:List Oper) (s:St) (kw:Kw) (k:List Rec->St->Kw->Tr),(opsK cx ops l s kw k).holds sp G U I->Good sp cx.sm U kw->s.n<=s.tmps.length->
   ∃rs s' kw',(k rs s' kw').holds sp G U I/\Good sp cx.sm U kw'/\KwGe kw' kw/\rs.map (·.o)=l/\s'.fs=full rs s.fs/\(s'.tmps.length=s.tmps.length/\s'.n=s.n)/\∀(m:Nat) r,rs[m]? =some r->RecOk P hw U s.n base cx.fbs ops r (full (rs.take m) s.fs)
 | [],s,kw,k,h,hg,hn=>⟨[],s,kw,h,hg,.refl _,rfl,rfl,⟨rfl,rfl⟩,fun m r hm=>by simp at hm⟩
 | o::l,s,kw,k,h,hg,hn=>by
   have next:∀(want:Bool) (eff:Eff) (kw0 kw:Kw),KwGe kw kw0->((match s.app o.dst eff with | some s'=>opsK cx ops l s' kw fun rs s'' kw=>k (⟨o,want,s.heap.length,eff⟩::rs) s'' kw | none=>.stuck 60:Tr)).holds sp G U I->Good sp cx.sm U kw->
    (∀s',s.app o.dst eff=some s'->RecOk P hw U s.n base cx.fbs ops ⟨o,want,s.heap.length,eff⟩ s.fs)->
    ∃rs s' kw',(k rs s' kw').holds sp G U I/\Good sp cx.sm U kw'/\KwGe kw' kw0/\rs.map (·.o)=o::l/\s'.fs=full rs s.fs/\(s'.tmps.length=s.tmps.length/\s'.n=s.n)/\∀(m:Nat) r,rs[m]? =some r->RecOk P hw U s.n base cx.fbs ops r (full (rs.take m) s.fs):=by
    intro want eff kw0 kw hlv h hg hrec
    split at h
    ·rename_i s1 hs1
     obtain⟨e1,e2,e3,e4,_,_⟩:=St.app_ok hn hs1
     obtain⟨rs,s',kw',h1,h2,h0,h3,h4,h5,h6⟩:=kY hT hS hkeys hW l s1 kw _ h hg (by rw[e2.1,e2.2];exact hn)
     refine⟨⟨o,want,s.heap.length,eff⟩::rs,s',kw',h1,h2,h0.trans hlv,by simp[h3],?_,⟨by rw[h5.1,e2.1],by rw[h5.2,e2.2]⟩,fun m r hm=> ?_⟩
     ·rw[h4,e1];rfl
     ·cases m with
      | zero=>
        simp only[bK,bh] at hm
        subst hm
        exact hrec s1 hs1
      | succ m=>
        have:=h6 m r (by simpa using hm)
        rw[e1,e2.2] at this
        exact this
    ·exact h.elim
   have ran:∀(kw0 kw:Kw),KwGe kw kw0->(opKT cx (s.vw cx) o.op kw fun eff kw=>
     match s.app o.dst eff with
     | some s'=>opsK cx ops l s' kw fun rs s'' kw=>k (⟨o,true,s.heap.length,eff⟩::rs) s'' kw
     | none=>.stuck 60).holds sp G U I->Good sp cx.sm U kw->
    (match o.guard with
     | none=>True
     | some (g,b)=>∃t,(ops[g]?).bind (·.dst)=some t/\t<s.n/\∃e:E,s.fs.tmp t=.one (.bool e)/\true=(e.B U==b))->
    ∃rs s' kw',(k rs s' kw').holds sp G U I/\Good sp cx.sm U kw'/\KwGe kw' kw0/\rs.map (·.o)=o::l/\s'.fs=full rs s.fs/\(s'.tmps.length=s.tmps.length/\s'.n=s.n)/\∀(m:Nat) r,rs[m]? =some r->RecOk P hw U s.n base cx.fbs ops r (full (rs.take m) s.fs):=by
    intro kw0 kw hlv h hg hgd
    obtain⟨eff,kw1,h1,g1,l1,hok⟩:=aoa (P:=P) (o:=o) (base:=base) hT hS hkeys h hg
    refine next true eff kw0 kw1 (l1.trans hlv) h1 g1 (fun s1 hs1=> ?_)
    obtain⟨e1,e2,e3,e4,e5,e6⟩:=St.app_ok hn hs1
    refine⟨fun _=>⟨s.vw cx,rfl,(hW▸hok),⟨fun x hx v hv=>by rw[agB s hn];exact hv,fun p hp c hc=>by rw[xQ];exact hc,e4,fun _=>(gF (Nat.le_refl _)).2,fun id hid r hr=>by rw[kS];exact hr,e5,rfl,e6⟩⟩,fun h=>(by cases h),?_,e3⟩
    cases hgg:o.guard with
    | none=>simp[hgg]
    | some p=>
      obtain⟨g,b⟩:=p
      simp only[hgg]
      rw[hgg] at hgd
      obtain⟨t,h2,h3,e,h4,h5⟩:=hgd
      exact⟨t,h2,h3,.inl ⟨e,h4,h5⟩⟩
   have skipped:∀(kw0 kw:Kw) (g:Nat) (b:Bool),KwGe kw kw0->o.guard=some (g,b)->(match s.app o.dst {val:=.one .undef} with
     | some s'=>opsK cx ops l s' kw fun rs s'' kw=>k (⟨o,false,s.heap.length,{val:=.one .undef}⟩::rs) s'' kw
     | none=>.stuck 60:Tr).holds sp G U I->Good sp cx.sm U kw->
    (∃t,(ops[g]?).bind (·.dst)=some t/\t<s.n/\((∃e:E,s.fs.tmp t=.one (.bool e)/\false=(e.B U==b))\/(s.fs.tmp t=.one .undef/\false=false)))->
    ∃rs s' kw',(k rs s' kw').holds sp G U I/\Good sp cx.sm U kw'/\KwGe kw' kw0/\rs.map (·.o)=o::l/\s'.fs=full rs s.fs/\(s'.tmps.length=s.tmps.length/\s'.n=s.n)/\∀(m:Nat) r,rs[m]? =some r->RecOk P hw U s.n base cx.fbs ops r (full (rs.take m) s.fs):=by
    intro kw0 kw g b hlv hgg h hg hgd
    refine next false _ kw0 kw hlv h hg (fun s1 hs1=> ?_)
    obtain⟨e1,e2,e3,e4,_,_⟩:=St.app_ok hn hs1
    refine⟨fun h=>(by cases h),fun _=>rfl,?_,e3⟩
    simp only[hgg]
    obtain⟨t,h1,h2,h3⟩:=hgd
    exact⟨t,h1,h2,h3.imp _root_.id (fun h=>⟨h.1,trivial⟩)⟩
   have tmpAt:∀(g t:Nat) v,((ops[g]?).bind (·.dst)).bind (fun t=>if Nat.blt t s.n then s.tmps.get? t else none)=some v->∃t,(ops[g]?).bind (·.dst)=some t/\t<s.n/\s.fs.tmp t=v:=by
    intro g _ v h
    rw[bJ] at h
    obtain⟨t,h1,h2⟩:=h
    split at h2
    ·rename_i ht
     exact⟨t,h1,by simpa[Nat.blt_eq] using ht,by simp[St.fs,fsOf,h2]⟩
    ·cases h2
   unfold opsK at h
   split at h
   ·rename_i hgg
    exact ran kw kw (.refl _) h hg (by simp[hgg])
   ·rename_i g b hgg
    split at h
    ·rename_i e he
     obtain⟨t,h1,h2,h3⟩:=tmpAt g 0 _ he
     obtain⟨kw1,h4,g4,_,l4⟩:=aY _ _ _ h hg
     split at h4
     ·rename_i hb
      exact ran kw kw1 l4 h4 g4 (by simp only[hgg];exact⟨t,h1,h2,e,h3,hb.symm⟩)
     ·rename_i hb
      exact skipped kw kw1 g b l4 hgg h4 g4 ⟨t,h1,h2,.inl ⟨e,h3,by simpa using hb⟩⟩
    ·rename_i he
     obtain⟨t,h1,h2,h3⟩:=tmpAt g 0 _ he
     exact skipped kw kw g b (.refl _) hgg h hg ⟨t,h1,h2,.inr ⟨h3,rfl⟩⟩
    ·exact h.elim
end
end Go.Proofs.YtfkhblmeioiciaaGreatDoor
