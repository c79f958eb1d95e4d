import Derived.Test.YtghiofgomcihcaaSyG9
import Derived.RangeFuncRecord
set_option linter.unusedVariables false
set_option linter.unusedSimpArgs false
namespace Go.Proofs.Ytghiofgomcihcaa
open Go.RowKit
structure FS where
 tmp:Nat→V
 box:Nat→Option (List C×Nat)
 row:Nat→Option (Option RowOb)
 lp:Nat→Option Lp
theorem FS.ext' {F F':FS} (h1:∀t,F.tmp t=F'.tmp t) (h2:∀b,F.box b=F'.box b) (h3:∀b,F.row b=F'.row b) (h4:∀b,F.lp b=F'.lp b):F=F':=by
 cases F; cases F'
 simp only[FS.mk.injEq]
 exact⟨funext h1,funext h2,funext h3,funext h4⟩
def FS.put (F:FS) (dst:Option Nat) (v:V):FS:={F with tmp:=fun t=>if dst=some t then v else F.tmp t}
def FS.new (F:FS) (nid:Nat) (x:List C×Nat):FS:={F with box:=fun b=>if b=nid then some x else F.box b}
def FS.wr (F:FS) (p:Nat×Nat×C):FS:={F with box:=fun b=>if b=p.1 then(F.box b).map (fun x=>(x.1.set p.2.1 p.2.2,x.2)) else F.box b}
def FS.wrs (F:FS) (l:List (Nat×Nat×C)):FS:=l.foldl FS.wr F
def FS.rw1 (F:FS) (p:Nat×Option RowOb):FS:={F with row:=fun b=>if b=p.1 then some p.2 else F.row b}
def FS.rws (F:FS) (l:List (Nat×Option RowOb)):FS:=l.foldl FS.rw1 F
def FS.app (F:FS) (dst:Option Nat) (nid:Nat) (eff:Eff):FS:=
 ((match eff.al with | some x=>F.new nid x | none=>F.wrs eff.wr).rws (eff.re.rs nid)).put dst eff.val
def evF (F:FS) (n:Nat):Operand→Option V
 | .tmp t=>if t<n then(match F.tmp t with | .top=>none | v=>some v) else none
 | .const v=>ofValue v
 | .global _=>none
 | .func f=>some (.one (.fn f))
def ldF (F:FS) (b o:Nat):Option C:=(F.box b).bind fun x=>x.1[o]?
def rwF (F:FS) (id:Nat):Option RowOb:=(F.row id).bind fun x=>x
structure Rf where
 ps:Array Tmp
 assign:Code
 body:Code
 tmps:Array Value
 l:Nat
structure Wb where
 w:World
 M:List Nat
 top:Bool
 rf:Option Rf
abbrev Wb.heap (b:Wb):Array Obj:=b.w.heap
def Wb.ds (b:Wb):List Deferred:=if b.top then b.M.map fun D=>{target:=.collected D,args:= #[]} else[]
def LS.st:LS→LoopState
 | .ready=>.ready
 | .busy=>.busy
 | .done=>.done
def Sig.code:Sig→Code
 | .normal=>.skip
 | .exit id=>.exit id
 | .ret=>.ret
structure LoopIs (rf:Rf) (y:Lp) (o:Loop):Prop where
 st:o.state=y.st.st
 pend:o.pending=y.pend.map Sig.code
 ps:o.params=rf.ps
 assign:o.assign=rf.assign
 body:o.body=rf.body
 tmps:o.tmps=rf.tmps
structure Frz (W0:Wb) (F:FS) (j:J) (w:World):Prop where
 at':∀k o,j.g.z k=some o→w.heap[k]? =some o∧(isCl o=false→W0.heap.size≤k)
 box:∀k o b,j.g.z k=some o→j.b b≠some k
 row:∀k o id r s,j.g.z k=some o→F.row id=some (some r)→j.s id=some s→(r.own=true∨isCl o=false)→s.blk r.own≠some k
 md:∀D∈W0.M,j.g.z D=some (.deferred (some []))
 nd:W0.M.Nodup
 lp:∀id y,F.lp id=some y→∃rf o,W0.rf=some rf∧j.g.y id=some rf.l∧j.g.z rf.l=some (.loop o)∧LoopIs rf y o
 nol:∀id,F.row id=none→F.lp id=none→j.g.y id=none
 ev:∀id r s,F.row id=some (some r)→j.s id=some s→Zin j s
theorem Frz.lt {W0:Wb} {F:FS} {j:J} {w:World} (h:Frz W0 F j w) {k:Nat} {o:Obj} (hz:j.g.z k=some o):k<w.heap.size:=(Array.getElem?_eq_some_iff.1 (h.at' k o hz).1).1
theorem Frz.step {W0:Wb} {F F':FS} {j j':J} {w w':World} (h:Frz W0 F j w) (hg:j'.g=j.g) (hl:F'.lp=F.lp) (hn:∀id,F'.row id=none→F.row id=none)
  (hh:∀k o,j.g.z k=some o→w'.heap[k]? =w.heap[k]?) (hb:∀b k,j'.b b=some k→j.b b=some k∨w.heap.size≤k)
  (hr:∀id r s,F'.row id=some (some r)→j'.s id=some s→(∃id0 r0 s0,F.row id0=some (some r0)∧j.s id0=some s0∧(r.own=true→r0.own=true)∧∀k,s.blk r.own=some k→s0.blk r0.own=some k∨w.heap.size≤k)∨(∀k,s.blk r.own=some k→w.heap.size≤k)) (hv:∀id r s,F'.row id=some (some r)→j'.s id=some s→Zin j s):Frz W0 F' j' w' where
 at' k o hz:=by rw[hg] at hz; rw[hh k o hz]; exact h.at' k o hz
 box k o b hz e:=by
  rw[hg] at hz
  rcases hb b k e with h1 | h1
  ·exact h.box k o b hz h1
  ·have:=h.lt hz; omega
 row k o id r s hz hF hs hc e:=by
  rw[hg] at hz
  have:=h.lt hz
  rcases hr id r s hF hs with⟨id0,r0,s0,h1,h2,h3,h4⟩ | h1
  ·rcases h4 k e with h4 | h4
   ·exact h.row k o id0 r0 s0 hz h1 h2 (hc.imp h3 _root_.id) h4
   ·omega
  ·have:=h1 k e; omega
 md D hD:=by rw[hg]; exact h.md D hD
 nd:=h.nd
 lp id y hy:=by rw[hg]; rw[hl] at hy; exact h.lp id y hy
 nol id hF hy:=by rw[hg]; rw[hl] at hy; exact h.nol id (hn id hF) hy
 ev id r s hF hs:=fun p hp=>by rw[hg]; exact hv id r s hF hs p hp
structure Rel (ρ:Env) (n:Nat) (X:List Value) (W0:Wb) (fb:Nat→Option (List C)) (F:FS) (j:J) (a:Act) (w:World):Prop where
 defers:a.defers=W0.ds
 size:a.tmps.size=n
 tmp:∀t,t<n→∃v,a.tmps[t]? =some v∧(F.tmp t=.top∨(F.tmp t).den ρ j=some v)
 sav:∀(i:Nat) v,X[i]? =some v→F.tmp (n+i)=.top∨(F.tmp (n+i)).den ρ j=some v
 box:∀b cs ty,F.box b=some (cs,ty)→∃k vs,j.b b=some k∧W0.heap.size≤k∧denL ρ j cs=some vs∧w.heap[k]? =some (.cells vs.toArray ty (0,0))
 nob:∀b,F.box b=none→j.b b=none
 inj:∀b b' k,j.b b=some k→j.b b'=some k→b=b'
 row:∀b r,F.row b=some (some r)→∃s,j.s b=some s∧RowOk ρ W0.heap.size w s r
 nor:∀b,F.row b=none→j.s b=none
 sep:∀b b' k r s,j.b b=some k→F.row b'=some (some r)→j.s b'=some s→s.blk r.own≠some k
 rsep:∀b b' r r' s s' k,F.row b=some (some r)→r.own=true→F.row b'=some (some r')→j.s b=some s→j.s b'=some s'→s.blk r.own=some k→s'.blk r'.own=some k→b=b'
 fb:∀b cs,fb b=some cs→∃k vs,j.f b=some k∧k<W0.heap.size∧denL ρ j cs=some vs∧∀o v,vs[o]? =some v→dK cs o=true→w.cell? ⟨k,o,none⟩=some v
 ext:Ext W0.w w
 gs:Frz W0 F j w
section
variable {P:Program} {ρ:Env} {n:Nat} {X:List Value} {W0:Wb} {fb:Nat→Option (List C)} {F:FS} {j:J} {a:Act} {w:World}
theorem Rel.lt (h:Rel ρ n X W0 fb F j a w) {b k:Nat} (hb:j.b b=some k):∃cs ty vs,F.box b=some (cs,ty)∧W0.heap.size≤k∧denL ρ j cs=some vs∧w.heap[k]? =some (.cells vs.toArray ty (0,0))∧k<w.heap.size:=by
 cases hF:F.box b with
 | none=>rw[h.nob b hF] at hb; cases hb
 | some x=>
   obtain⟨cs,ty⟩:=x
   obtain⟨k',vs,h1,h2,h3,h4⟩:=h.box b cs ty hF
   rw[hb] at h1; cases h1
   refine⟨cs,ty,vs,rfl,h2,h3,h4,?_⟩
   rcases Nat.lt_or_ge k w.heap.size with hlt | hge
   ·exact hlt
   ·rw[Array.getElem?_eq_none hge] at h4; cases h4
theorem mN {k o ty:Nat} {vs:List Value} (h:w.heap[k]? =some (.cells vs.toArray ty (0,0))):w.cell? ⟨k,o,none⟩=vs[o]? :=by
 simp[World.cell?,h]
theorem tp {k o ty:Nat} {vs:List Value} (h:w.heap[k]? =some (.cells vs.toArray ty (0,0))):w.frozen? ⟨k,o,none⟩=false:=by
 simp[World.frozen?,h]
theorem Rel.eval (h:Rel ρ n X W0 fb F j a w) {x:Operand} {v:V} (hx:evF F n x=some v):v.den ρ j=some (a.eval x):=by
 cases x with
 | tmp t=>
   simp only[evF] at hx
   split at hx
   ·rename_i ht
    split at hx
    ·cases hx
    ·rename_i hne
     cases hx
     obtain⟨u,h1,h2⟩:=h.tmp t ht
     rcases h2 with h2 | h2
     ·exact absurd h2 hne
     ·rw[h2]
      simp[Act.eval,Array.getD_eq_getD_getElem?,h1]
   ·cases hx
 | const v0=>exact sW hx ρ j
 | global g=>cases hx
 | func f=>cases hx; rfl
theorem Ext.grown' {w0 w w':World} {row:Option Nat} (h:Ext w0 w) (hg:w.grownBy w' row) (hr:∀k,row=some k→w0.heap.size≤k):Ext w0 w':=Below.grown h hg h.size hr
theorem Ext.block' {w0 w:World} (h:Ext w0 w) (k:Nat) (hk:k<w0.heap.size):w.heap[k]? =w0.heap[k]? :=h.block k hk
theorem rk {w w':World} {base ty esz n:Nat} {s:SV} {xs:List Value} (h:w.ownsRow base ty esz s.v n xs) (hb:∀k,s.v.ownBlock=some k→w'.heap[k]? =w.heap[k]?):w'.ownsRow base ty esz s.v n xs:=by
 refine⟨h.1,?_⟩
 rcases h.2 with h' | ⟨g,cap,cur,hv,h1,h2,h3⟩
 ·exact .inl h'
 ·exact .inr ⟨g,cap,cur,hv,h1,by rw[hb g (by rw[hv]; rfl)]; exact h2,h3⟩
theorem SlOk.kept {base:Nat} {w w':World} {s:SV} {r:RowOb} (h:SlOk ρ base w s r) (hsz:w.heap.size≤w'.heap.size) (hb:∀k,s.blk r.own=some k→w'.heap[k]? =w.heap[k]?):SlOk ρ base w' s r:=
 ⟨h.n,h.rows,h.pos,fun k hk=>Nat.lt_of_lt_of_le (h.lt k hk) hsz,fun ho=>rk (h.own ho) (by rw[ho] at hb; exact hb),h.rd.kept (fun k hk=>hb k (ba hk))⟩
theorem SlOk.base {b1 b2:Nat} {w:World} {s:SV} {r:RowOb} (h:SlOk ρ b1 w s r) (hb:b2≤b1):SlOk ρ b2 w s r:=
 ⟨h.n,h.rows,h.pos,h.lt,fun ho=>(h.own ho).mono hb,h.rd⟩
theorem EvOk.kept {base:Nat} {w w':World} {s:SV} {r:RowOb} (h:EvOk ρ base w s r) (hsz:w.heap.size≤w'.heap.size) (hb:∀k,s.blk r.own=some k→w'.heap[k]? =w.heap[k]?):EvOk ρ base w' s r:=by
 obtain⟨ins,h1,h2,h3,h4⟩:=h.at'
 exact⟨h.ks,h.n,h.rows,fun k hk=>Nat.lt_of_lt_of_le (h.lt k hk) hsz,h.zb,ins,h1,fun ho=>rk (h2 ho) (by rw[ho] at hb; exact hb),h3.kept (fun k hk=>hb k (ba hk)),h4⟩
theorem RowOk.kept {base:Nat} {w w':World} {s:SV} {r:RowOb} (h:RowOk ρ base w s r) (hsz:w.heap.size≤w'.heap.size) (hb:∀k,s.blk r.own=some k→w'.heap[k]? =w.heap[k]?):RowOk ρ base w' s r:=by
 rcases h.cases with⟨hk,h⟩ | ⟨hk,h⟩ | ⟨hk,h⟩
 ·exact(h.kept hsz hb).row hk
 ·obtain⟨g,ob,h1,h2,h3,h4⟩:=h.at'
  exact HdOk.row ⟨h.own,h.rows,h.c,g,ob,h1,h2,by rw[hb g (h.blkAt h1 r.own)]; exact h3,h4⟩ hk
 ·exact(h.kept hsz hb).row hk
theorem RowOk.base {b1 b2:Nat} {w:World} {s:SV} {r:RowOb} (h:RowOk ρ b1 w s r) (hb:b2≤b1):RowOk ρ b2 w s r:=by
 rcases h.cases with⟨hk,h⟩ | ⟨hk,h⟩ | ⟨hk,h⟩
 ·exact(h.base hb).row hk
 ·obtain⟨g,ob,h1,h2,h3,h4⟩:=h.at'
  exact HdOk.row ⟨h.own,h.rows,h.c,g,ob,h1,Nat.le_trans hb h2,h3,h4⟩ hk
 ·obtain⟨ins,h1,h2,h3,h4⟩:=h.at'
  exact EvOk.row ⟨h.ks,h.n,h.rows,h.lt,fun ho p hp=>Nat.le_trans hb (h.zb ho p hp),ins,h1,fun ho=>(h2 ho).mono hb,h3,h4⟩ hk
theorem Rel.kept (h:Rel ρ n X W0 fb F j a w) {w':World} (hx:Ext W0.w w') (hsz:w.heap.size≤w'.heap.size)
  (hb:∀b k,j.b b=some k→w'.heap[k]? =w.heap[k]?) (hr:∀b r s k,F.row b=some (some r)→j.s b=some s→s.blk r.own=some k→w'.heap[k]? =w.heap[k]?) (hz:∀k o,j.g.z k=some o→w'.heap[k]? =w.heap[k]?):Rel ρ n X W0 fb F j a w' where
 defers:=h.defers
 size:=h.size
 tmp:=h.tmp
 sav:=h.sav
 box b cs ty hF:=by
  obtain⟨k,vs,h1,h2,h3,h4⟩:=h.box b cs ty hF
  exact⟨k,vs,h1,h2,h3,by rw[hb b k h1]; exact h4⟩
 nob:=h.nob
 inj:=h.inj
 row b r hF:=by
  obtain⟨s,h1,h2⟩:=h.row b r hF
  exact⟨s,h1,h2.kept hsz (fun k hk=>hr b r s k hF h1 hk)⟩
 nor:=h.nor
 sep:=h.sep
 rsep:=h.rsep
 fb b cs hF:=by
  obtain⟨k,vs,h1,h2,h3,h4⟩:=h.fb b cs hF
  refine⟨k,vs,h1,h2,h3,fun o v ho hs=> ?_⟩
  have h5:=h4 o v ho hs
  have e1:w'.heap[k]? =w.heap[k]? :=(hx.block k h2).trans (h.ext.block k h2).symm
  rw[World.cell?_of_block (a:=⟨k,o,none⟩) e1]; exact h5
 ext:=hx
 gs:=h.gs.step rfl rfl (fun _ h=>h) hz (fun _ _ h=>.inl h) (fun id r s h1 h2=>.inl ⟨id,r,s,h1,h2,fun h=>h,fun _ h=>.inl h⟩) h.gs.ev
theorem Rel.more (h:Rel ρ n X W0 fb F j a w) {w1:World} (hx:Ext w w1):Rel ρ n X W0 fb F j a w1:=
 h.kept (h.ext.trans hx) hx.size (fun b k hk=>by
  obtain⟨_,_,_,_,_,_,_,hlt⟩:=h.lt hk
  exact hx.block k hlt) (fun b r s k hF hs hk=>by
  obtain⟨s',h1,h2⟩:=h.row b r hF
  rw[hs] at h1; cases h1
  exact hx.block k (h2.lt k hk)) (fun k o hz=>hx.block k (h.gs.lt hz))
theorem Rel.put (h:Rel ρ n X W0 fb F j a w) {dst:Option Nat} {v:V} {u:Value} (hv:v.den ρ j=some u) (hd:∀d,dst=some d→d<n):Rel ρ n X W0 fb (F.put dst v) j (a.put dst u) w where
 defers:=by cases dst<;>simp[Act.put,h.defers]
 size:=by cases dst<;>simp[Act.put,h.size]
 tmp t ht:=by
  cases dst with
  | none=>simpa[FS.put,Act.put] using h.tmp t ht
  | some d=>
    by_cases hdt:d=t
    ·subst hdt
     exact⟨u,by simp[Act.put,Array.getElem?_setIfInBounds,h.size,ht],.inr (by simp[FS.put,hv])⟩
    ·obtain⟨x,h1,h2⟩:=h.tmp t ht
     exact⟨x,by simp[Act.put,Array.getElem?_setIfInBounds,hdt,h1],by simpa[FS.put,hdt] using h2⟩
 sav i v hi:=by
  have:¬dst=some (n+i):=fun e=>by have:=hd _ e; omega
  simpa only[FS.put,this,if_false] using h.sav i v hi
 box:=h.box
 nob:=h.nob
 inj:=h.inj
 row:=h.row
 nor:=h.nor
 sep:=h.sep
 rsep:=h.rsep
 fb:=h.fb
 ext:=h.ext
 gs:=h.gs.step rfl rfl (fun _ h=>h) (fun _ _ _=>rfl) (fun _ _ h=>.inl h) (fun id r s h1 h2=>.inl ⟨id,r,s,h1,h2,fun h=>h,fun _ h=>.inl h⟩) h.gs.ev
theorem Rel.new (h:Rel ρ n X W0 fb F j a w) {nid ty:Nat} {cs:List C} {vs:List Value} (hd:denL ρ j cs=some vs) (hn:F.box nid=none):
  Rel ρ n X W0 fb (F.new nid (cs,ty)) {j with b:=fun b=>if b=nid then some w.heap.size else j.b b} a (w.alloc (.cells vs.toArray ty)):=by
 have hs:Sub j {j with b:=fun b=>if b=nid then some w.heap.size else j.b b}:=⟨fun b k hb=>by
  have:b≠nid:=fun e=>by rw[e,h.nob nid hn] at hb; cases hb
  simp[this,hb],fun _ _ hb=>hb,fun _ _ hb=>hb,fun _ _ hb=>hb⟩
 have h':=h.more ((Ext.refl w).alloc (.cells vs.toArray ty))
 refine⟨h.defers,h.size,fun t ht=> ?_,fun i v hi=>(h.sav i v hi).imp id (V.den_sub hs),fun b cs' ty' hF=> ?_,fun b hF=> ?_,fun b b' k h1 h2=> ?_,h'.row,h'.nor,fun b b' k r s h1 h2 h3 h4=> ?_,h'.rsep,fun b cs hF=> ?_,h'.ext,h.gs.step rfl rfl (fun _ h=>h) (fun k o hz=>((Ext.refl w).alloc (.cells vs.toArray ty)).block k (h.gs.lt hz)) (fun b k hb=> ?_) (fun id r s h1 h2=>.inl ⟨id,r,s,h1,h2,fun h=>h,fun _ h=>.inl h⟩) h.gs.ev⟩
 ·obtain⟨v,h1,h2⟩:=h.tmp t ht
  exact⟨v,h1,h2.imp id (V.den_sub hs)⟩
 ·by_cases hb:b=nid
  ·simp only[FS.new,hb,if_true,Option.some.injEq,Prod.mk.injEq] at hF
   obtain⟨rfl,rfl⟩:=hF
   exact⟨w.heap.size,vs,by simp[hb],h.ext.size,aH hs hd,by exact heap_alloc_new _ _⟩
  ·simp only[FS.new,hb,if_false] at hF
   obtain⟨k,us,h1,h2,h3,h4⟩:=h'.box b cs' ty' hF
   exact⟨k,us,by simp[hb,h1],h2,aH hs h3,h4⟩
 ·by_cases hb:b=nid
  ·simp[FS.new,hb] at hF
  ·simp only[FS.new,hb,if_false] at hF
   simp[hb,h.nob b hF]
 ·by_cases hb:b=nid<;>by_cases hb':b'=nid<;>simp only[hb,hb',if_true,if_false] at h1 h2
  ·rw[hb,hb']
  ·obtain⟨_,_,_,_,_,_,_,hlt⟩:=h.lt h2
   cases h1; omega
  ·obtain⟨_,_,_,_,_,_,_,hlt⟩:=h.lt h1
   cases h2; omega
  ·exact h.inj b b' k h1 h2
 ·by_cases hb:b=nid
  ·simp only[hb,if_true,Option.some.injEq] at h1
   obtain⟨s',h5,h6⟩:=h.row b' r h2
   rw[h3] at h5; cases h5
   have:=h6.lt k h4
   omega
  ·simp only[hb,if_false] at h1
   exact h.sep b b' k r s h1 h2 h3 h4
 ·obtain⟨k,us,h1,h2,h3,h4⟩:=h'.fb b cs hF
  exact⟨k,us,h1,h2,aH hs h3,h4⟩
 ·dsimp only at hb
  split at hb
  ·cases hb; exact .inr (Nat.le_refl _)
  ·exact .inl hb
theorem Rel.wr1 (h:Rel ρ n X W0 fb F j a w) {b o:Nat} {c:C} {k:Nat} {v:Value} (hk:j.b b=some k) (hv:c.den ρ j=some v):Rel ρ n X W0 fb (F.wr (b,o,c)) j a (w.setCell ⟨k,o,none⟩ v):=by
 obtain⟨cs,ty,vs,hF,hge,hd,hh,hlt⟩:=h.lt hk
 have other:∀k',k'≠k→(w.setCell ⟨k,o,none⟩ v).heap[k']? =w.heap[k']? :=fun k' hne=>heap_setCell_other w ⟨k,o,none⟩ k' v hne
 have hx:Ext W0.w (w.setCell ⟨k,o,none⟩ v):=h.ext.setCell hge v
 have hsz:w.heap.size≤(w.setCell ⟨k,o,none⟩ v).heap.size:=by simp[World.setCell]
 refine⟨h.defers,h.size,h.tmp,h.sav,fun b' cs' ty' hF'=> ?_,fun b' hF'=> ?_,h.inj,fun b' r hF'=> ?_,h.nor,h.sep,h.rsep,fun b' cs' hF'=> ?_,hx,h.gs.step rfl rfl (fun _ h=>h) (fun k' o' hz=>other k' (fun e=>h.gs.box k' o' b hz (e▸hk))) (fun _ _ h=>.inl h) (fun id r s h1 h2=>.inl ⟨id,r,s,h1,h2,fun h=>h,fun _ h=>.inl h⟩) h.gs.ev⟩
 ·by_cases hb:b'=b
  ·subst hb
   simp only[FS.wr,if_true,hF,Option.map_some,Option.some.injEq,Prod.mk.injEq] at hF'
   obtain⟨rfl,rfl⟩:=hF'
   refine⟨k,vs.set o v,hk,hge,mK hd o c v hv,?_⟩
   have:=heap_setCell_same w k o vs.toArray ty v hh
   simpa using this
  ·simp only[FS.wr,hb,if_false] at hF'
   obtain⟨k',us,h1,h2,h3,h4⟩:=h.box b' cs' ty' hF'
   exact⟨k',us,h1,h2,h3,by rw[other k' (fun e=>hb (h.inj b' b k (by rw[h1,e]) hk))]; exact h4⟩
 ·by_cases hb:b'=b
  ·subst hb; simp[FS.wr,hF] at hF'
  ·simp only[FS.wr,hb,if_false] at hF'
   exact h.nob b' hF'
 ·obtain⟨s,h1,h2⟩:=h.row b' r hF'
  exact⟨s,h1,h2.kept hsz (fun k' hk'=>other k' (fun e=>h.sep b b' k r s hk hF' h1 (e▸hk')))⟩
 ·obtain⟨k',us,h1,h2,h3,h4⟩:=h.fb b' cs' hF'
  refine⟨k',us,h1,h2,h3,fun o' v' ho hs'=> ?_⟩
  rw[World.cell?_of_block (a:=⟨k',o',none⟩) (other k' (by omega))]
  exact h4 o' v' ho hs'
theorem Rel.wrs:∀{l:List (Nat×Nat×C)} {F:FS} {w w':World},Rel ρ n X W0 fb F j a w→lB ρ j l w w'→Rel ρ n X W0 fb (F.wrs l) j a w'
 | [],F,w,w',h,hw=>by
   have e:w'=w:=hw
   subst e
   exact h
 | (b,o,c)::l,F,w,w',h,hw=>by
   obtain⟨k,v,hk,hv,hw'⟩:=hw
   exact Rel.wrs (F:=F.wr (b,o,c)) (h.wr1 hk hv) hw'
theorem Rel.turn (h:Rel ρ n X W0 fb F j a w) {w':World} {id:Nat} {q:RowOb} {s:SV} (hq:F.row id=some (some q)) (hown:q.own=true) (hs:j.s id=some s) (hg:w.grownBy w' s.v.ownBlock):
  Ext W0.w w'∧(∀b k,j.b b=some k→w'.heap[k]? =w.heap[k]?)∧(∀b r s' k,b≠id→F.row b=some (some r)→j.s b=some s'→s'.blk r.own=some k→w'.heap[k]? =w.heap[k]?)∧(∀k o,j.g.z k=some o→w'.heap[k]? =w.heap[k]?):=by
 obtain⟨s0,h1,h2⟩:=h.row id q hq
 rw[hs] at h1; cases h1
 refine⟨h.ext.grown' hg (fun k hk=>(h2.owned hown k hk).2),fun b k hb=> ?_,fun b r s' k hne hF hs' hk=> ?_,fun k o hz=>hg.block k (h.gs.lt hz) (fun e=>h.gs.row k o id q s hz hq hs (.inl hown) (by rw[hown]; exact e.symm))⟩
 ·obtain⟨_,_,_,_,_,_,_,hlt⟩:=h.lt hb
  exact hg.block k hlt (fun e=>h.sep b id k q s hb hq hs (by rw[hown]; exact e.symm))
 ·obtain⟨s1,h3,h4⟩:=h.row b r hF
  rw[hs'] at h3; cases h3
  exact hg.block k (h4.lt k hk) (fun e=>hne (h.rsep id b q r s s' k hq hown hF hs hs' (by rw[hown]; exact e.symm) hk).symm)
end
end Go.Proofs.Ytghiofgomcihcaa
set_option linter.unusedVariables false
set_option linter.unusedSimpArgs false
namespace Go.Proofs.Ytghiofgomcihcaa
open Go.RowKit
section
variable {P:Program} {ρ:Env} {n:Nat} {X:List Value} {W0:Wb} {fb:Nat→Option (List C)} {F:FS} {j:J} {a:Act} {w:World}
def ReOk (F:FS) (nid:Nat):RE→Prop
 | .none=>True
 | .set id r=>(∃q,F.row id=some (some q)∧q.own=true)∧r.own=true
 | .mk rs=>∀i,i<rs.length→F.row (nid+i)=none
 | .app old r=>(∃q,F.row old=some (some q)∧q.own=true)∧r.own=true∧F.row nid=none∧nid≠old
 | .view old q r=>(∃q0,F.row old=some (some q0))∧q.own=false∧r.own=false∧F.row nid=none∧nid≠old
 | .peek r=>r.own=false∧F.row nid=none
 | .frz old q r=>(∃q0,F.row old=some (some q0)∧q0.own=true)∧q.own=false∧r.own=true∧F.row nid=none∧nid≠old
theorem ga:∀(rs:List RowOb) (nid:Nat) (F:FS) (b:Nat),(F.rws (mkRs nid rs)).row b=if nid≤b∧b<nid+rs.length then some rs[b-nid]? else F.row b
 | [],nid,F,b=>by simp[mkRs,FS.rws]; omega
 | r::rs,nid,F,b=>by
   show((F.rw1 (nid,some r)).rws (mkRs (nid+1) rs)).row b=_
   rw[ga rs (nid+1)]
   by_cases h1:nid+1≤b∧b<nid+1+rs.length
   ·rw[if_pos h1,if_pos (by simp; omega)]
    rw[show b-nid=(b-(nid+1))+1 by omega]
    rfl
   ·rw[if_neg h1]
    by_cases h2:b=nid
    ·subst h2
     rw[if_pos (by simp)]
     simp[FS.rw1]
    ·rw[if_neg (by simp; omega)]
     simp[FS.rw1,h2]
theorem ay:∀(l:List (Nat×Option RowOb)) (F:FS),(F.rws l).box=F.box∧(F.rws l).tmp=F.tmp∧(F.rws l).lp=F.lp
 | [],_=>⟨rfl,rfl,rfl⟩
 | p::l,F=>ay l (F.rw1 p)
theorem Rel.set (h:Rel ρ n X W0 fb F j a w) {w':World} {id:Nat} {r:RowOb} {s:SV} (hr:ReOk F 0 (.set id r)) (hs:j.s id=some s) (hg:w.grownBy w' s.v.ownBlock) (hok:RowOk ρ W0.heap.size w' s r):Rel ρ n X W0 fb (F.rws (RE.rs 0 (.set id r))) j a w':=by
 obtain⟨⟨q,hq,hown⟩,hro⟩:=hr
 obtain⟨hx,hb,hother,hz⟩:=h.turn hq hown hs hg
 have back:∀b r',(F.rw1 (id,some r)).row b=some (some r')→∃q',F.row b=some (some q')∧r'.own=q'.own:=by
  intro b r' hF
  simp only[FS.rw1] at hF
  split at hF
  ·rename_i hbid; subst hbid; simp only[Option.some.injEq] at hF; subst hF; exact⟨q,hq,by rw[hown]; exact hro⟩
  ·exact⟨r',hF,rfl⟩
 show Rel ρ n X W0 fb (F.rw1 (id,some r)) j a w'
 refine⟨h.defers,h.size,h.tmp,h.sav,fun b cs ty hF=> ?_,h.nob,h.inj,fun b r' hF=> ?_,fun b hF=> ?_,fun b b' k r' s' h1 h2 h3=> ?_,fun b b' r1 r2 s1 s2 k h1 h2 h3 h4 h5=> ?_,fun b cs hF=> ?_,hx,h.gs.step rfl rfl (fun b hF=> ?_) hz (fun _ _ h=>.inl h) (fun b r' s' h1 h2=> ?_) (fun b r' s' h1 h2=> ?_)⟩
 ·obtain⟨k,vs,h1,h2,h3,h4⟩:=h.box b cs ty hF
  exact⟨k,vs,h1,h2,h3,by rw[hb b k h1]; exact h4⟩
 ·by_cases hbid:b=id
  ·subst hbid
   simp only[FS.rw1,if_true,Option.some.injEq] at hF
   subst hF
   exact⟨s,hs,hok⟩
  ·simp only[FS.rw1,hbid,if_false] at hF
   obtain⟨s',h1,h2⟩:=h.row b r' hF
   exact⟨s',h1,h2.kept hg.size (fun k hk=>hother b r' s' k hbid hF h1 hk)⟩
 ·simp only[FS.rw1] at hF
  split at hF
  ·cases hF
  ·exact h.nor b hF
 ·obtain⟨q',hq',ho⟩:=back b' r' h2
  rw[ho]
  exact h.sep b b' k q' s' h1 hq' h3
 ·obtain⟨q1,hq1,ho⟩:=back b r1 h1
  obtain⟨q2,hq2,ho2⟩:=back b' r2 h3
  rw[ho,ho2]
  exact h.rsep b b' q1 q2 s1 s2 k hq1 (by rw[←ho]; exact h2) hq2 h4 h5
 ·obtain⟨k,vs,h1,h2,h3,h4⟩:=h.fb b cs hF
  refine⟨k,vs,h1,h2,h3,fun o v ho hs'=> ?_⟩
  rw[World.cell?_of_block (a:=⟨k,o,none⟩) ((hx.block' k h2).trans (h.ext.block' k h2).symm)]
  exact h4 o v ho hs'
 ·simp only[FS.rw1] at hF
  split at hF
  ·cases hF
  ·exact hF
 ·obtain⟨q',h3,h4⟩:=back b r' h1
  exact .inl ⟨b,q',s',h3,h2,fun e=>by rw[←h4]; exact e,fun k hk=>.inl (by rw[←h4]; exact hk)⟩
 ·obtain⟨q',h3,h4⟩:=back b r' h1
  exact h.gs.ev b q' s' h3 h2
theorem mg {j:J} {nid:Nat} {svs:List SV} {b:Nat}:(j.putL nid svs).s b=if nid≤b∧b<nid+svs.length then svs[b-nid]? else j.s b:=by
 simp only[J.putL]
 by_cases h1:nid≤b
 ·by_cases h2:b<nid+svs.length
  ·rw[if_pos h1,if_pos ⟨h1,h2⟩,List.getElem?_eq_getElem (by omega)]
  ·rw[if_pos h1,if_neg (fun e=>h2 e.2),List.getElem?_eq_none (by omega)]
 ·rw[if_neg h1,if_neg (fun e=>h1 e.1)]
theorem Rel.made (h:Rel ρ n X W0 fb F j a w) {w':World} {nid:Nat} {rs:List RowOb} {svs:List SV} (hr:ReOk F nid (.mk rs)) (hx:Ext w w') (hl:svs.length=rs.length)
  (hok:∀(i:Nat) u r,svs[i]? =some u→rs[i]? =some r→RowOk ρ w.heap.size w' u r∧r.own=true) (hdis:∀(i i':Nat) u u' k,svs[i]? =some u→svs[i']? =some u'→u.v.ownBlock=some k→u'.v.ownBlock=some k→i=i') (hzi:∀u∈svs,NewZ w w' svs u):
  Rel ρ n X W0 fb (F.rws (mkRs nid rs)) ((j.putL nid svs).addzs (svs.flatMap (·.z))) a w':=by
 have h':=h.more hx
 have hn:∀b,nid≤b→b<nid+rs.length→j.s b=none:=fun b h1 h2=>h.nor b (by have:=hr (b-nid) (by omega); rwa [show nid+(b-nid)=b by omega] at this)
 have hs0:Sub j (j.putL nid svs):=⟨fun _ _ hb=>hb,fun b v hb=>by
  rw[mg]
  split
  ·rename_i hin
   rw[hn b hin.1 (by omega)] at hb; cases hb
  ·exact hb,fun _ _ hb=>hb,fun _ _ hb=>hb⟩
 obtain⟨e1,e2,e3⟩:=ay (mkRs nid rs) F
 generalize hzs:svs.flatMap (·.z)=zs
 obtain⟨f1,f2,f3,f4⟩:=xG (j.putL nid svs) zs
 have hs:Sub j ((j.putL nid svs).addzs zs):=hs0.trans ⟨fun b k e=>by rw[f2]; exact e,fun b k e=>by rw[f1]; exact e,fun b k e=>by rw[f3]; exact e,fun b k e=>by rw[f4]; exact e⟩
 have newz:∀p∈zs,w'.heap[p.1]? =some p.2∧isCl p.2=true∧w.heap.size≤p.1∧∀u∈svs,u.v.ownBlock≠some p.1:=fun p hp=>by
  rw[←hzs,List.mem_flatMap] at hp
  obtain⟨u,hu,hp⟩:=hp
  exact hzi u hu p hp
 have one:∀p∈zs,∀q∈zs,p.1=q.1→p.2=q.2:=fun p hp q hq e=>by
  have h1:=(newz p hp).1
  rw[e,(newz q hq).1] at h1
  exact(Option.some.inj h1).symm
 have zold:∀k o,j.g.z k=some o→∀p∈zs,p.1≠k:=fun k o hk p hp e=>by
  have:=h.gs.lt hk
  have:=(newz p hp).2.2.1
  omega
 have rows:∀b r,(F.rws (mkRs nid rs)).row b=some (some r)→(F.row b=some (some r)∧(j.putL nid svs).s b=j.s b∧¬(nid≤b∧b<nid+rs.length))∨∃i u,b=nid+i∧svs[i]? =some u∧rs[i]? =some r∧(j.putL nid svs).s b=some u:=by
  intro b r hF
  rw[ga] at hF
  rw[mg,hl]
  split at hF
  ·rename_i hin
   right
   have hi:b-nid<svs.length:=by omega
   refine⟨b-nid,svs[b-nid],by omega,List.getElem?_eq_getElem hi,by simpa using hF,?_⟩
   rw[if_pos hin,List.getElem?_eq_getElem hi]
  ·rename_i hin
   exact .inl ⟨hF,by rw[if_neg hin],hin⟩
 have blk:∀(i:Nat) (u:SV) (r:RowOb),svs[i]? =some u→rs[i]? =some r→∀k,u.v.ownBlock=some k→w.heap.size≤k:=fun i u r h1 h2 k hk=>((hok i u r h1 h2).1.owned (hok i u r h1 h2).2 k hk).2
 refine⟨h'.defers,h'.size,fun t ht=> ?_,fun i v hi=>by rw[e2]; exact(h'.sav i v hi).imp _root_.id (V.den_sub hs),fun b cs ty hF=> ?_,fun b hF=> ?_,fun b b' k h1 h2=> ?_,fun b r hF=> ?_,fun b hF=> ?_,fun b b' k r s h1 h2 h3 h4=> ?_,fun b b' r1 r2 s1 s2 k h1 h2 h3 h4 h5 h6 h7=> ?_,fun b cs hF=> ?_,h'.ext,⟨fun k o hk=> ?_,fun k o b hk e=> ?_,fun k o b r s hk hF hs1 hc e=> ?_,fun D hD=> ?_,h.gs.nd,fun i y hy=> ?_,fun i hF hy=> ?_,fun b r s h1 h2=> ?_⟩⟩
 ·rw[e2]
  obtain⟨v,h1,h2⟩:=h'.tmp t ht
  exact⟨v,h1,h2.imp _root_.id (V.den_sub hs)⟩
 ·rw[e1] at hF
  obtain⟨k,vs,h1,h2,h3,h4⟩:=h'.box b cs ty hF
  exact⟨k,vs,by rw[f2]; exact h1,h2,aH hs h3,h4⟩
 ·rw[e1] at hF; rw[f2]; exact h'.nob b hF
 ·rw[f2] at h1 h2; exact h'.inj b b' k h1 h2
 ·rw[f1]
  rcases rows b r hF with⟨h1,h2,_⟩ | ⟨i,u,rfl,h1,h2,h3⟩
  ·rw[h2]; exact h'.row b r h1
  ·exact⟨u,h3,(hok i u r h1 h2).1.base h.ext.size⟩
 ·rw[ga] at hF
  rw[f1,mg,hl]
  split at hF
  ·rename_i hin
   exfalso
   rw[List.getElem?_eq_getElem (by omega)] at hF
   cases hF
  ·rename_i hin
   rw[if_neg hin]
   exact h.nor b hF
 ·rw[f2] at h1
  rw[f1] at h3
  have h1':j.b b=some k:=h1
  rcases rows b' r h2 with⟨g1,g2,_⟩ | ⟨i,u,rfl,g1,g2,g3⟩
  ·rw[g2] at h3
   exact h.sep b b' k r s h1' g1 h3 h4
  ·rw[g3] at h3; cases h3
   obtain⟨_,_,_,_,_,_,_,hlt⟩:=h.lt h1'
   have:=blk i _ r g1 g2 k (ap h4)
   omega
 ·rw[f1] at h4 h5
  rcases rows b r1 h1 with⟨g1,g2,_⟩ | ⟨i,u,rfl,g1,g2,g3⟩
  ·rw[g2] at h4
   rcases rows b' r2 h3 with⟨q1,q2,_⟩ | ⟨i',u',rfl,q1,q2,q3⟩
   ·rw[q2] at h5
    exact h.rsep b b' r1 r2 s1 s2 k g1 h2 q1 h4 h5 h6 h7
   ·rw[q3] at h5; cases h5
    obtain⟨s0,p1,p2⟩:=h.row b r1 g1
    rw[h4] at p1; cases p1
    have:=p2.lt k h6
    have:=blk i' _ r2 q1 q2 k (ap h7)
    omega
  ·rw[g3] at h4; cases h4
   rcases rows b' r2 h3 with⟨q1,q2,_⟩ | ⟨i',u',rfl,q1,q2,q3⟩
   ·rw[q2] at h5
    obtain⟨s0,p1,p2⟩:=h.row b' r2 q1
    rw[h5] at p1; cases p1
    have:=p2.lt k h7
    have:=blk i _ r1 g1 g2 k (ap h6)
    omega
   ·rw[q3] at h5; cases h5
    rw[hdis i i' _ _ k g1 q1 (ap h6) (ap h7)]
 ·obtain⟨k,vs,h1,h2,h3,h4⟩:=h'.fb b cs hF
  exact⟨k,vs,by rw[f3]; exact h1,h2,aH hs h3,h4⟩
 ·rcases kz hk with h1 | ⟨_,h1⟩
  ·obtain⟨z1,z2,z3,_⟩:=newz _ h1
   exact⟨z1,fun e=>by rw[z2] at e; cases e⟩
  ·exact h'.gs.at' k o h1
 ·rw[f2] at e
  rcases kz hk with h1 | ⟨_,h1⟩
  ·obtain⟨_,_,z3,_⟩:=newz _ h1
   obtain⟨_,_,_,_,_,_,_,hlt⟩:=h.lt (show j.b b=some k from e)
   simp only at z3
   omega
  ·exact h.gs.box k o b h1 e
 ·rw[f1] at hs1
  rcases kz hk with h1 | ⟨_,h1⟩
  ·obtain⟨_,_,z3,z4⟩:=newz _ h1
   rcases rows b r hF with⟨g1,g2,_⟩ | ⟨i,u,rfl,g1,g2,g3⟩
   ·rw[g2] at hs1
    obtain⟨s0,p1,p2⟩:=h.row b r g1
    rw[hs1] at p1; cases p1
    have:=p2.lt k e
    simp only at z3
    omega
   ·rw[g3] at hs1; cases hs1
    exact z4 _ (List.mem_of_getElem? g1) (ap e)
  ·have hlt:=h.gs.lt h1
   rcases rows b r hF with⟨g1,g2,_⟩ | ⟨i,u,rfl,g1,g2,g3⟩
   ·rw[g2] at hs1
    exact h.gs.row k o b r s h1 g1 hs1 hc e
   ·rw[g3] at hs1; cases hs1
    have:=blk i _ r g1 g2 k (ap e)
    omega
 ·have h1:=h.gs.md D hD
  rw[fD (zold D _ h1)]
  exact h1
 ·rw[e3] at hy
  obtain⟨rf,o,h1,h2,h3,h4⟩:=h.gs.lp i y hy
  exact⟨rf,o,h1,by rw[f4]; exact h2,by rw[fD (zold _ _ h3)]; exact h3,h4⟩
 ·rw[f4]
  rw[e3] at hy
  refine h.gs.nol i ?_ hy
  rw[ga] at hF
  split at hF
  ·rename_i hin
   rw[List.getElem?_eq_getElem (by omega)] at hF
   cases hF
  ·exact hF
 ·intro p hp
  rw[f1] at h2
  rcases rows b r h1 with⟨g1,g2,_⟩ | ⟨i,u,rfl,g1,g2,g3⟩
  ·rw[g2] at h2
   obtain⟨z1,z2⟩:=h.gs.ev b r s g1 h2 p hp
   exact⟨by rw[fD (zold _ _ z1)]; exact z1,z2⟩
  ·rw[g3] at h2; cases h2
   have hm:p∈zs:=by
    rw[←hzs,List.mem_flatMap]
    exact⟨_,List.mem_of_getElem? g1,hp⟩
   exact⟨xF one hm,(newz p hm).2.1⟩
theorem Sub.putS {j:J} {nid:Nat} {s:SV} (h:j.s nid=none):Sub j (j.putS nid s):=⟨fun _ _ hb=>hb,fun b v hb=>by
 simp only[J.putS]
 split
 ·rename_i e; subst e; rw[h] at hb; cases hb
 ·exact hb,fun _ _ hb=>hb,fun _ _ hb=>hb⟩
theorem Rel.app (h:Rel ρ n X W0 fb F j a w) {w':World} {nid old:Nat} {r:RowOb} {s s':SV} (hr:ReOk F nid (.app old r)) (hs:j.s old=some s) (hg:w.grownBy w' s.v.ownBlock) (hok:RowOk ρ W0.heap.size w' s' r) (hblk:s'.v.ownBlock=s.v.ownBlock∨s'.v.ownBlock=some w.heap.size) (hzi:Zin j s'):
  Rel ρ n X W0 fb (F.rws (RE.rs nid (.app old r))) (j.putS nid s') a w':=by
 obtain⟨⟨q,hq,hown⟩,hro,hnid,hne⟩:=hr
 obtain⟨hx,hb,hother,hz⟩:=h.turn hq hown hs hg
 have hsub:Sub j (j.putS nid s'):=Sub.putS (h.nor nid hnid)
 have rows:∀b r',((F.rw1 (old,none)).rw1 (nid,some r)).row b=some (some r')→(b=nid∧r'=r)∨(b≠nid∧b≠old∧F.row b=some (some r')∧(j.putS nid s').s b=j.s b):=by
  intro b r' hF
  simp only[FS.rw1] at hF
  split at hF
  ·rename_i e; exact .inl ⟨e,by simpa using hF.symm⟩
  ·rename_i e
   split at hF
   ·cases hF
   ·rename_i e'; exact .inr ⟨e,e',hF,by simp[J.putS,e]⟩
 have snew:(j.putS nid s').s nid=some s':=by simp[J.putS]
 have sold:∀b,b≠nid→(j.putS nid s').s b=j.s b:=fun b e=>by simp[J.putS,e]
 show Rel ρ n X W0 fb ((F.rw1 (old,none)).rw1 (nid,some r)) (j.putS nid s') a w'
 refine⟨h.defers,h.size,fun t ht=> ?_,fun i v hi=>(h.sav i v hi).imp _root_.id (V.den_sub hsub),fun b cs ty hF=> ?_,h.nob,h.inj,fun b r' hF=> ?_,fun b hF=> ?_,fun b b' k r' s1 h1 h2 h3 h4=> ?_,fun b b' r1 r2 s1 s2 k h1 h2 h3 h4 h5 h6 h7=> ?_,fun b cs hF=> ?_,hx,h.gs.step rfl rfl (fun b hF=> ?_) hz (fun _ _ h=>.inl h) (fun b r' s1 h1 h2=> ?_) (fun b r' s1 h1 h2=> ?_)⟩
 ·obtain⟨v,h1,h2⟩:=h.tmp t ht
  exact⟨v,h1,h2.imp _root_.id (V.den_sub hsub)⟩
 ·obtain⟨k,vs,h1,h2,h3,h4⟩:=h.box b cs ty hF
  exact⟨k,vs,h1,h2,aH hsub h3,by rw[hb b k h1]; exact h4⟩
 ·rcases rows b r' hF with⟨rfl,rfl⟩ | ⟨e1,e2,hF',hs'⟩
  ·exact⟨s',snew,hok⟩
  ·rw[hs']
   obtain⟨s1,h1,h2⟩:=h.row b r' hF'
   exact⟨s1,h1,h2.kept hg.size (fun k hk=>hother b r' s1 k e2 hF' h1 hk)⟩
 ·simp only[FS.rw1] at hF
  split at hF
  ·cases hF
  ·rename_i e
   split at hF
   ·cases hF
   ·rw[sold b e]; exact h.nor b hF
 ·have h1':j.b b=some k:=h1
  obtain⟨_,_,_,_,_,_,_,hlt⟩:=h.lt h1'
  rcases rows b' r' h2 with⟨rfl,rfl⟩ | ⟨e1,e2,hF',hs'⟩
  ·rw[snew] at h3; cases h3
   rcases hblk with e | e
   ·exact h.sep b old k q s h1' hq hs (iD hown (e▸ap h4))
   ·have h4:=ap h4; rw[e] at h4; cases h4; omega
  ·rw[hs'] at h3
   exact h.sep b b' k r' s1 h1' hF' h3 h4
 ·rcases rows b r1 h1 with⟨rfl,rfl⟩ | ⟨e1,e2,hF1,hs1⟩
  ·rcases rows b' r2 h3 with⟨rfl,_⟩ | ⟨e3,e4,hF2,hs2⟩
   ·rfl
   ·exfalso
    rw[snew] at h4; cases h4
    rw[hs2] at h5
    rcases hblk with e | e
    ·exact e4 (h.rsep old b' q r2 s s2 k hq hown hF2 hs h5 (iD hown (e▸ap h6)) h7).symm
    ·obtain⟨s0,p1,p2⟩:=h.row b' r2 hF2
     rw[h5] at p1; cases p1
     have:=p2.lt k h7
     have h6:=ap h6
     rw[e] at h6; cases h6; omega
  ·rw[hs1] at h4
   rcases rows b' r2 h3 with⟨rfl,_⟩ | ⟨e3,e4,hF2,hs2⟩
   ·exfalso
    rw[snew] at h5; cases h5
    rcases hblk with e | e
    ·exact e2 (h.rsep b old r1 q s1 s k hF1 h2 hq h4 hs h6 (iD hown (e▸ap h7)))
    ·obtain⟨s0,p1,p2⟩:=h.row b r1 hF1
     rw[h4] at p1; cases p1
     have:=p2.lt k h6
     have h7:=ap h7
     rw[e] at h7; cases h7; omega
   ·rw[hs2] at h5
    exact h.rsep b b' r1 r2 s1 s2 k hF1 h2 hF2 h4 h5 h6 h7
 ·obtain⟨k,vs,h1,h2,h3,h4⟩:=h.fb b cs hF
  refine⟨k,vs,h1,h2,aH hsub h3,fun o v ho hs'=> ?_⟩
  rw[World.cell?_of_block (a:=⟨k,o,none⟩) ((hx.block' k h2).trans (h.ext.block' k h2).symm)]
  exact h4 o v ho hs'
 ·simp only[FS.rw1] at hF
  split at hF
  ·cases hF
  ·split at hF
   ·cases hF
   ·exact hF
 ·rcases rows b r' h1 with⟨rfl,rfl⟩ | ⟨e1,e2,hF',hs'⟩
  ·rw[snew] at h2; cases h2
   refine .inl ⟨old,q,s,hq,hs,fun _=>hown,fun k hk=> ?_⟩
   rcases hblk with e | e
   ·exact .inl (iD hown (e▸ap hk))
   ·have:=ap hk
    rw[e] at this; cases this
    exact .inr (Nat.le_refl _)
  ·rw[hs'] at h2
   exact .inl ⟨b,r',s1,hF',h2,fun h=>h,fun _ h=>.inl h⟩
 ·rcases rows b r' h1 with⟨rfl,rfl⟩ | ⟨e1,e2,hF',hs'⟩
  ·rw[snew] at h2; cases h2; exact hzi
  ·rw[hs'] at h2
   exact h.gs.ev b r' s1 hF' h2
theorem Rel.view (h:Rel ρ n X W0 fb F j a w) {nid old:Nat} {q r:RowOb} {s s':SV} (hr:ReOk F nid (.view old q r)) (hs:j.s old=some s) (hq:RowOk ρ W0.heap.size w s q) (hok:RowOk ρ W0.heap.size w s' r) (hblk:∀k,s'.blk false=some k→s.blk false=some k) (hzi:Zin j s'):
  Rel ρ n X W0 fb (F.rws (RE.rs nid (.view old q r))) (j.putS nid s') a w:=by
 obtain⟨⟨q0,hq0⟩,hqo,hro,hnid,hne⟩:=hr
 have hsub:Sub j (j.putS nid s'):=Sub.putS (h.nor nid hnid)
 have rows:∀b r',((F.rw1 (old,some q)).rw1 (nid,some r)).row b=some (some r')→(b=nid∧r'=r)∨(b≠nid∧b=old∧r'=q)∨(b≠nid∧b≠old∧F.row b=some (some r')):=by
  intro b r' hF
  simp only[FS.rw1] at hF
  split at hF
  ·rename_i e; exact .inl ⟨e,by simpa using hF.symm⟩
  ·rename_i e
   split at hF
   ·rename_i e'; exact .inr (.inl ⟨e,e',by simpa using hF.symm⟩)
   ·rename_i e'; exact .inr (.inr ⟨e,e',hF⟩)
 have snew:(j.putS nid s').s nid=some s':=by simp[J.putS]
 have sold:∀b,b≠nid→(j.putS nid s').s b=j.s b:=fun b e=>by simp[J.putS,e]
 show Rel ρ n X W0 fb ((F.rw1 (old,some q)).rw1 (nid,some r)) (j.putS nid s') a w
 refine⟨h.defers,h.size,fun t ht=> ?_,fun i v hi=>(h.sav i v hi).imp _root_.id (V.den_sub hsub),fun b cs ty hF=> ?_,h.nob,h.inj,fun b r' hF=> ?_,fun b hF=> ?_,fun b b' k r' s1 h1 h2 h3 h4=> ?_,fun b b' r1 r2 s1 s2 k h1 h2 h3 h4 h5 h6 h7=> ?_,fun b cs hF=> ?_,h.ext,h.gs.step rfl rfl (fun b hF=> ?_) (fun _ _ _=>rfl) (fun _ _ h=>.inl h) (fun b r' s1 h1 h2=> ?_) (fun b r' s1 h1 h2=> ?_)⟩
 ·obtain⟨v,h1,h2⟩:=h.tmp t ht
  exact⟨v,h1,h2.imp _root_.id (V.den_sub hsub)⟩
 ·obtain⟨k,vs,h1,h2,h3,h4⟩:=h.box b cs ty hF
  exact⟨k,vs,h1,h2,aH hsub h3,h4⟩
 ·rcases rows b r' hF with⟨rfl,rfl⟩ | ⟨e1,rfl,rfl⟩ | ⟨e1,e2,hF'⟩
  ·exact⟨s',snew,hok⟩
  ·exact⟨s,by rw[sold _ e1]; exact hs,hq⟩
  ·rw[sold b e1]; exact h.row b r' hF'
 ·simp only[FS.rw1] at hF
  split at hF
  ·cases hF
  ·rename_i e
   split at hF
   ·cases hF
   ·rw[sold b e]; exact h.nor b hF
 ·have h1':j.b b=some k:=h1
  rcases rows b' r' h2 with⟨rfl,rfl⟩ | ⟨e1,rfl,rfl⟩ | ⟨e1,e2,hF'⟩
  ·rw[snew] at h3; cases h3
   exact h.sep b old k q0 s h1' hq0 hs (ba (hblk k (by rw[hro] at h4; exact h4)))
  ·rw[sold _ e1,hs] at h3; cases h3
   exact h.sep b _ k q0 s h1' hq0 hs (ba (by rw[hqo] at h4; exact h4))
  ·rw[sold b' e1] at h3
   exact h.sep b b' k r' s1 h1' hF' h3 h4
 ·rcases rows b r1 h1 with⟨rfl,rfl⟩ | ⟨e1,rfl,rfl⟩ | ⟨e1,e2,hF1⟩
  ·rw[hro] at h2; cases h2
  ·rw[hqo] at h2; cases h2
  ·rw[sold b e1] at h4
   rcases rows b' r2 h3 with⟨rfl,rfl⟩ | ⟨e3,rfl,rfl⟩ | ⟨e3,e4,hF2⟩
   ·rw[snew] at h5; cases h5
    exact absurd (h.rsep b old r1 q0 s1 s k hF1 h2 hq0 h4 hs h6 (ba (hblk k (by rw[hro] at h7; exact h7)))) e2
   ·rw[sold _ e3,hs] at h5; cases h5
    exact h.rsep b _ r1 q0 s1 s k hF1 h2 hq0 h4 hs h6 (ba (by rw[hqo] at h7; exact h7))
   ·rw[sold b' e3] at h5
    exact h.rsep b b' r1 r2 s1 s2 k hF1 h2 hF2 h4 h5 h6 h7
 ·obtain⟨k,vs,h1,h2,h3,h4⟩:=h.fb b cs hF
  exact⟨k,vs,h1,h2,aH hsub h3,h4⟩
 ·simp only[FS.rw1] at hF
  split at hF
  ·cases hF
  ·split at hF
   ·cases hF
   ·exact hF
 ·rcases rows b r' h1 with⟨rfl,rfl⟩ | ⟨e1,rfl,rfl⟩ | ⟨e1,e2,hF'⟩
  ·rw[snew] at h2; cases h2
   exact .inl ⟨old,q0,s,hq0,hs,fun e=>(by rw[hro] at e; cases e),fun k hk=>.inl (ba (hblk k (by rw[hro] at hk; exact hk)))⟩
  ·rw[sold _ e1,hs] at h2; cases h2
   exact .inl ⟨_,q0,s,hq0,hs,fun e=>(by rw[hqo] at e; cases e),fun k hk=>.inl (ba (by rw[hqo] at hk; exact hk))⟩
  ·rw[sold b e1] at h2
   exact .inl ⟨b,r',s1,hF',h2,fun h=>h,fun _ h=>.inl h⟩
 ·rcases rows b r' h1 with⟨rfl,rfl⟩ | ⟨e1,rfl,rfl⟩ | ⟨e1,e2,hF'⟩
  ·rw[snew] at h2; cases h2; exact hzi
  ·rw[sold _ e1,hs] at h2; cases h2
   exact h.gs.ev _ q0 _ hq0 hs
  ·rw[sold b e1] at h2
   exact h.gs.ev b r' s1 hF' h2
theorem qn (j:J) (l:Nat) (x:Option Obj):Sub j (j.setz l x):=⟨fun _ _ h=>h,fun _ _ h=>h,fun _ _ h=>h,fun _ _ h=>h⟩
theorem xL (j:J) (z:List (Nat×Obj)):Sub j (j.addz z):=by
 cases z with
 | nil=>exact .refl j
 | cons p z=>exact qn _ _ _
theorem acP (j:J) (z:List (Nat×Obj)):(j.addz z).s=j.s∧(j.addz z).b=j.b∧(j.addz z).f=j.f∧(j.addz z).g.y=j.g.y:=by cases z<;>exact⟨rfl,rfl,rfl,rfl⟩
theorem xH {j:J} {z:List (Nat×Obj)} (hl:z.length≤1) {k:Nat} {o:Obj} (h:(j.addz z).g.z k=some o):(k,o)∈z∨((∀p∈z,p.1≠k)∧j.g.z k=some o):=by
 match z,hl with
 | [],_=>exact .inr ⟨fun p hp=>(by cases hp),h⟩
 | [p],_=>
   simp only[J.addz,J.setz,Gh.setz] at h
   by_cases e:k=p.1
   ·rw[if_pos e] at h
    cases h
    exact .inl (by rw[e]; exact List.mem_cons_self)
   ·rw[if_neg e] at h
    exact .inr ⟨fun q hq=>by rw[List.mem_singleton.1 hq]; exact fun h=>e h.symm,h⟩
theorem zk {j:J} {z:List (Nat×Obj)} (hl:z.length≤1) {p:Nat×Obj} (hp:p∈z):(j.addz z).g.z p.1=some p.2:=by
 match z,hl with
 | [q],_=>rw[List.mem_singleton.1 hp]; simp[J.addz,J.setz,Gh.setz]
theorem eK {j:J} {z:List (Nat×Obj)} (hl:z.length≤1) {k:Nat} (hk:∀p∈z,p.1≠k):(j.addz z).g.z k=j.g.z k:=by
 match z,hl with
 | [],_=>rfl
 | [q],_=>
   have:=hk q List.mem_cons_self
   simp only[J.addz,J.setz,Gh.setz]
   rw[if_neg (fun e=>this e.symm)]
theorem Rel.frz (h:Rel ρ n X W0 fb F j a w) {w':World} {nid old:Nat} {q r:RowOb} {s s':SV} (hr:ReOk F nid (.frz old q r)) (hx:Ext w w') (hs:j.s old=some s) (hq:RowOk ρ W0.heap.size w s q) (hok:RowOk ρ W0.heap.size w' s' r) (hfr:∀k,s'.v.ownBlock=some k→w.heap.size≤k) (hl:s'.z.length≤1) (hz:∀p∈s'.z,w.heap[p.1]? =some p.2∧isCl p.2=true∧s.v.ownBlock=some p.1):
  Rel ρ n X W0 fb (F.rws (RE.rs nid (.frz old q r))) ((j.putS nid s').addz s'.z) a w':=by
 obtain⟨⟨q0,hq0,hq0o⟩,hqo,hro,hnid,hne⟩:=hr
 have h':=h.more hx
 obtain⟨f1,f2,f3,f4⟩:=acP (j.putS nid s') s'.z
 have hsub:Sub j ((j.putS nid s').addz s'.z):=(Sub.putS (h.nor nid hnid)).trans (xL _ _)
 have rows:∀b r',((F.rw1 (old,some q)).rw1 (nid,some r)).row b=some (some r')→(b=nid∧r'=r)∨(b≠nid∧b=old∧r'=q)∨(b≠nid∧b≠old∧F.row b=some (some r')):=by
  intro b r' hF
  simp only[FS.rw1] at hF
  split at hF
  ·rename_i e; exact .inl ⟨e,by simpa using hF.symm⟩
  ·rename_i e
   split at hF
   ·rename_i e'; exact .inr (.inl ⟨e,e',by simpa using hF.symm⟩)
   ·rename_i e'; exact .inr (.inr ⟨e,e',hF⟩)
 have snew:((j.putS nid s').addz s'.z).s nid=some s':=by rw[f1]; simp[J.putS]
 have sold:∀b,b≠nid→((j.putS nid s').addz s'.z).s b=j.s b:=fun b e=>by rw[f1]; simp[J.putS,e]
 obtain⟨s0,g1,g2⟩:=h.row old q0 hq0
 rw[hs] at g1; cases g1
 have fresh:∀k,s'.blk r.own=some k→w.heap.size≤k:=fun k hk=>hfr k (ap hk)
 have zblk:∀p∈s'.z,s.blk q0.own=some p.1:=fun p hp=>iD hq0o (hz p hp).2.2
 have zold:∀k o,j.g.z k=some o→∀p∈s'.z,p.1≠k:=fun k o hk p hp e=>h.gs.row k o old q0 s hk hq0 hs (.inl hq0o) (by rw[←e]; exact zblk p hp)
 have rowlt:∀b r s k,F.row b=some (some r)→j.s b=some s→s.blk r.own=some k→k<w.heap.size:=fun b r s k hF hs hk=>by
  obtain⟨s',h1,h2⟩:=h.row b r hF
  rw[hs] at h1; cases h1
  exact h2.lt k hk
 show Rel ρ n X W0 fb ((F.rw1 (old,some q)).rw1 (nid,some r)) ((j.putS nid s').addz s'.z) a w'
 refine⟨h.defers,h.size,fun t ht=> ?_,fun i v hi=>(h.sav i v hi).imp _root_.id (V.den_sub hsub),fun b cs ty hF=> ?_,fun b hF=>by rw[f2]; exact h.nob b hF,fun b b' k h1 h2=>by rw[f2] at h1 h2; exact h.inj b b' k h1 h2,fun b r' hF=> ?_,fun b hF=> ?_,fun b b' k r' s1 h1 h2 h3 h4=> ?_,fun b b' r1 r2 s1 s2 k h1 h2 h3 h4 h5 h6 h7=> ?_,fun b cs hF=> ?_,h'.ext,⟨fun k o hk=> ?_,fun k o b hk e=> ?_,fun k o b r' s1 hk hF hs1 hc e=> ?_,fun D hD=> ?_,h.gs.nd,fun i y hy=> ?_,fun i hF hy=> ?_,fun b r' s1 h1 h2=> ?_⟩⟩
 ·obtain⟨v,h1,h2⟩:=h.tmp t ht
  exact⟨v,h1,h2.imp _root_.id (V.den_sub hsub)⟩
 ·obtain⟨k,vs,h1,h2,h3,h4⟩:=h'.box b cs ty hF
  exact⟨k,vs,by rw[f2]; exact h1,h2,aH hsub h3,h4⟩
 ·rcases rows b r' hF with⟨rfl,rfl⟩ | ⟨e1,rfl,rfl⟩ | ⟨e1,e2,hF'⟩
  ·exact⟨s',snew,hok⟩
  ·refine⟨s,by rw[sold _ e1]; exact hs,hq.kept hx.size (fun k hk=>hx.block k (hq.lt k hk))⟩
  ·rw[sold b e1]; exact h'.row b r' hF'
 ·simp only[FS.rw1] at hF
  split at hF
  ·cases hF
  ·rename_i e
   split at hF
   ·cases hF
   ·rw[sold b e]; exact h.nor b hF
 ·rw[f2] at h1
  obtain⟨_,_,_,_,_,_,_,hlt⟩:=h.lt h1
  rcases rows b' r' h2 with⟨rfl,rfl⟩ | ⟨e1,rfl,rfl⟩ | ⟨e1,e2,hF'⟩
  ·rw[snew] at h3; cases h3
   have:=fresh k h4
   omega
  ·rw[sold _ e1,hs] at h3; cases h3
   exact h.sep b _ k q0 s h1 hq0 hs (ba (by rw[hqo] at h4; exact h4))
  ·rw[sold b' e1] at h3
   exact h.sep b b' k r' s1 h1 hF' h3 h4
 ·rcases rows b r1 h1 with⟨rfl,rfl⟩ | ⟨e1,rfl,rfl⟩ | ⟨e1,e2,hF1⟩
  ·rw[snew] at h4; cases h4
   have hk:=fresh k h6
   rcases rows b' r2 h3 with⟨rfl,rfl⟩ | ⟨e3,rfl,rfl⟩ | ⟨e3,e4,hF2⟩
   ·rfl
   ·rw[sold _ e3,hs] at h5; cases h5
    have:=hq.lt k h7
    omega
   ·rw[sold b' e3] at h5
    have:=rowlt b' r2 s2 k hF2 h5 h7
    omega
  ·rw[hqo] at h2; cases h2
  ·rw[sold b e1] at h4
   rcases rows b' r2 h3 with⟨rfl,rfl⟩ | ⟨e3,rfl,rfl⟩ | ⟨e3,e4,hF2⟩
   ·rw[snew] at h5; cases h5
    have:=fresh k h7
    have:=rowlt b r1 s1 k hF1 h4 h6
    omega
   ·rw[sold _ e3,hs] at h5; cases h5
    exact h.rsep b _ r1 q0 s1 s k hF1 h2 hq0 h4 hs h6 (ba (by rw[hqo] at h7; exact h7))
   ·rw[sold b' e3] at h5
    exact h.rsep b b' r1 r2 s1 s2 k hF1 h2 hF2 h4 h5 h6 h7
 ·obtain⟨k,vs,h1,h2,h3,h4⟩:=h'.fb b cs hF
  exact⟨k,vs,by rw[f3]; exact h1,h2,aH hsub h3,h4⟩
 ·rcases xH hl hk with h1 | ⟨h1,h2⟩
  ·obtain⟨z1,z2,z3⟩:=hz _ h1
   have hlt:=(Array.getElem?_eq_some_iff.1 z1).1
   exact⟨(hx.block k hlt).trans z1,fun _=>(g2.owned hq0o k z3).2⟩
  ·exact h'.gs.at' k o h2
 ·rw[f2] at e
  rcases xH hl hk with h1 | ⟨h1,h2⟩
  ·exact h.sep b old k q0 s e hq0 hs (zblk _ h1)
  ·exact h.gs.box k o b h2 e
 ·rcases xH hl hk with h1 | ⟨h1,h2⟩
  ·obtain⟨z1,z2,z3⟩:=hz _ h1
   have hown:r'.own=true:=by
    rcases hc with hc | hc
    ·exact hc
    ·rw[z2] at hc; cases hc
   have hlt:=(Array.getElem?_eq_some_iff.1 z1).1
   rcases rows b r' hF with⟨rfl,rfl⟩ | ⟨e1,rfl,rfl⟩ | ⟨e1,e2,hF'⟩
   ·rw[snew] at hs1; cases hs1
    have:=fresh k e
    omega
   ·rw[hqo] at hown; cases hown
   ·rw[sold b e1] at hs1
    exact e2 (h.rsep old b q0 r' s s1 k hq0 hq0o hF' hs hs1 (zblk _ h1) e).symm
  ·have hlt:=h.gs.lt h2
   rcases rows b r' hF with⟨rfl,rfl⟩ | ⟨e1,rfl,rfl⟩ | ⟨e1,e2,hF'⟩
   ·rw[snew] at hs1; cases hs1
    have:=fresh k e
    omega
   ·rw[sold _ e1,hs] at hs1; cases hs1
    exact h.gs.row k o _ q0 s h2 hq0 hs (.inl hq0o) (ba (by rw[hqo] at e; exact e))
   ·rw[sold b e1] at hs1
    exact h.gs.row k o b r' s1 h2 hF' hs1 hc e
 ·have h1:=h.gs.md D hD
  rw[eK hl (zold D _ h1)]
  exact h1
 ·obtain⟨rf,o,h1,h2,h3,h4⟩:=h.gs.lp i y hy
  exact⟨rf,o,h1,by rw[f4]; exact h2,by rw[eK hl (zold _ _ h3)]; exact h3,h4⟩
 ·rw[f4]
  refine h.gs.nol i ?_ hy
  simp only[FS.rw1] at hF
  split at hF
  ·cases hF
  ·split at hF
   ·cases hF
   ·exact hF
 ·intro p hp
  rcases rows b r' h1 with⟨rfl,rfl⟩ | ⟨e1,rfl,rfl⟩ | ⟨e1,e2,hF'⟩
  ·rw[snew] at h2; cases h2
   exact⟨zk hl hp,(hz p hp).2.1⟩
  ·rw[sold _ e1,hs] at h2; cases h2
   obtain⟨z1,z2⟩:=h.gs.ev _ q0 s hq0 hs p hp
   exact⟨by rw[eK hl (zold _ _ z1)]; exact z1,z2⟩
  ·rw[sold b e1] at h2
   obtain⟨z1,z2⟩:=h.gs.ev b r' s1 hF' h2 p hp
   exact⟨by rw[eK hl (zold _ _ z1)]; exact z1,z2⟩
theorem Rel.peek (h:Rel ρ n X W0 fb F j a w) {nid:Nat} {r:RowOb} {s':SV} (hr:ReOk F nid (.peek r)) (hok:RowOk ρ W0.heap.size w s' r) (hblk:∀k,s'.blk false=some k→∃o,j.g.z k=some o∧isCl o=true) (hz:s'.z=[]):
  Rel ρ n X W0 fb (F.rws (RE.rs nid (.peek r))) (j.putS nid s') a w:=by
 obtain⟨hro,hnid⟩:=hr
 have hsub:Sub j (j.putS nid s'):=Sub.putS (h.nor nid hnid)
 have rows:∀b r',(F.rw1 (nid,some r)).row b=some (some r')→(b=nid∧r'=r)∨(b≠nid∧F.row b=some (some r')):=by
  intro b r' hF
  simp only[FS.rw1] at hF
  split at hF
  ·rename_i e; exact .inl ⟨e,by simpa using hF.symm⟩
  ·rename_i e; exact .inr ⟨e,hF⟩
 have snew:(j.putS nid s').s nid=some s':=by simp[J.putS]
 have sold:∀b,b≠nid→(j.putS nid s').s b=j.s b:=fun b e=>by simp[J.putS,e]
 show Rel ρ n X W0 fb (F.rw1 (nid,some r)) (j.putS nid s') a w
 refine⟨h.defers,h.size,fun t ht=> ?_,fun i v hi=>(h.sav i v hi).imp _root_.id (V.den_sub hsub),fun b cs ty hF=> ?_,h.nob,h.inj,fun b r' hF=> ?_,fun b hF=> ?_,fun b b' k r' s1 h1 h2 h3 h4=> ?_,fun b b' r1 r2 s1 s2 k h1 h2 h3 h4 h5 h6 h7=> ?_,fun b cs hF=> ?_,h.ext,⟨h.gs.at',h.gs.box,fun k o b r' s1 hk hF hs1 hc e=> ?_,h.gs.md,h.gs.nd,h.gs.lp,fun i hF hy=> ?_,fun b r' s1 h1 h2=> ?_⟩⟩
 ·obtain⟨v,h1,h2⟩:=h.tmp t ht
  exact⟨v,h1,h2.imp _root_.id (V.den_sub hsub)⟩
 ·obtain⟨k,vs,h1,h2,h3,h4⟩:=h.box b cs ty hF
  exact⟨k,vs,h1,h2,aH hsub h3,h4⟩
 ·rcases rows b r' hF with⟨rfl,rfl⟩ | ⟨e1,hF'⟩
  ·exact⟨s',snew,hok⟩
  ·rw[sold b e1]; exact h.row b r' hF'
 ·simp only[FS.rw1] at hF
  split at hF
  ·cases hF
  ·rename_i e; rw[sold b e]; exact h.nor b hF
 ·have h1':j.b b=some k:=h1
  rcases rows b' r' h2 with⟨rfl,rfl⟩ | ⟨e1,hF'⟩
  ·rw[snew] at h3; cases h3
   rw[hro] at h4
   obtain⟨o,z1,_⟩:=hblk k h4
   exact h.gs.box k o b z1 h1'
  ·rw[sold b' e1] at h3
   exact h.sep b b' k r' s1 h1' hF' h3 h4
 ·rcases rows b r1 h1 with⟨rfl,rfl⟩ | ⟨e1,hF1⟩
  ·rw[hro] at h2; cases h2
  ·rw[sold b e1] at h4
   rcases rows b' r2 h3 with⟨rfl,rfl⟩ | ⟨e3,hF2⟩
   ·rw[snew] at h5; cases h5
    rw[hro] at h7
    obtain⟨o,z1,_⟩:=hblk k h7
    exact(h.gs.row k o b r1 s1 z1 hF1 h4 (.inl h2) h6).elim
   ·rw[sold b' e3] at h5
    exact h.rsep b b' r1 r2 s1 s2 k hF1 h2 hF2 h4 h5 h6 h7
 ·obtain⟨k,vs,h1,h2,h3,h4⟩:=h.fb b cs hF
  exact⟨k,vs,h1,h2,aH hsub h3,h4⟩
 ·rcases rows b r' hF with⟨rfl,rfl⟩ | ⟨e1,hF'⟩
  ·rw[snew] at hs1; cases hs1
   rw[hro] at hc e
   obtain⟨o',z1,z2⟩:=hblk k e
   rw[show(j.putS _ _).g.z=j.g.z from rfl,z1] at hk
   cases hk
   rcases hc with hc | hc
   ·cases hc
   ·rw[z2] at hc; cases hc
  ·rw[sold b e1] at hs1
   exact h.gs.row k o b r' s1 hk hF' hs1 hc e
 ·refine h.gs.nol i ?_ hy
  simp only[FS.rw1] at hF
  split at hF
  ·cases hF
  ·exact hF
 ·rcases rows b r' h1 with⟨rfl,rfl⟩ | ⟨e1,hF'⟩
  ·rw[snew] at h2; cases h2; exact Zin.nil hz
  ·rw[sold b e1] at h2
   exact h.gs.ev b r' s1 hF' h2
structure Sees (n:Nat) (fb:Nat→Option (List C)) (vw:Vw) (o:Oper) (eff:Eff) (F:FS):Prop where
 ev:∀x∈o.op.operands.toList,∀v,vw.ev x=some v→evF F n x=some v
 rd:∀p∈eff.rd,∀c,vw.ld p.1 p.2=some c→ldF F p.1 p.2=some c
 wr:∀p∈eff.wr,∃c,ldF F p.1 p.2.1=some c
 nw:eff.al≠none→F.box vw.nid=none
 rr:∀id∈eff.rr,∀r,vw.rw id=some r→rwF F id=some r
 re:ReOk F vw.nid eff.re
 fb:vw.fb=fb
 one:(eff.al=none∧eff.wr=[])∨eff.re=.none
theorem iX (h:Rel ρ n X W0 fb F j a w) {b o:Nat} {c:C} (hc:ldF F b o=some c):∃k v,j.b b=some k∧c.den ρ j=some v∧w.cell? ⟨k,o,none⟩=some v∧w.frozen? ⟨k,o,none⟩=false:=by
 simp only[ldF,Option.bind_eq_some_iff] at hc
 obtain⟨x,hx,hc⟩:=hc
 obtain⟨cs,ty⟩:=x
 obtain⟨k,vs,h1,h2,h3,h4⟩:=h.box b cs ty hx
 obtain⟨v,hv,hd⟩:=bz h3 o c hc
 exact⟨k,v,h1,hd,by rw[mN h4]; exact hv,tp h4⟩
theorem dV {F:FS} {id:Nat} {r:RowOb} (h:rwF F id=some r):F.row id=some (some r):=by
 unfold rwF at h
 cases hF:F.row id with
 | none=>rw[hF] at h; cases h
 | some x=>rw[hF] at h; simp only[Option.bind_some] at h; rw[h]
theorem aa4 (h:Rel ρ n X W0 fb F j a w) {vw:Vw} {o:Oper} {eff:Eff} (hok:OpOk P ρ W0.heap.size vw o eff) (hs:Sees n fb vw o eff F) (hd:∀d,o.dst=some d→d<n)
  {K:Act→World→Prop} {Q:Exit→Act→World→Prop} (hK:∀j' a' w',Rel ρ n X W0 fb (F.app o.dst vw.nid eff) j' a' w'→K a' w'):o.wp P a w K Q:=by
 refine hok j a w h.ext.size (fun x hx v hv=>h.eval (hs.ev x hx v hv)) (fun p hp c hc=> ?_) (fun p hp=> ?_) (fun id hid r hr=> ?_) (fun b cs hb=> ?_) K Q (fun v j' w' hv hdoes=> ?_)
 ·obtain⟨k,v,h1,h2,h3,_⟩:=iX h (hs.rd p hp c hc)
  exact⟨k,v,h1,h2,h3⟩
 ·obtain⟨c,hc⟩:=hs.wr p hp
  obtain⟨k,v,h1,_,h3,h4⟩:=iX h hc
  exact⟨k,v,h1,h3,h4⟩
 ·obtain⟨s,h1,h2⟩:=h.row id r (dV (hs.rr id hid r hr))
  have hz:=h.gs.ev id r s (dV (hs.rr id hid r hr)) h1
  exact⟨s,h1,h2,hz,fun p hp=>(h.gs.at' _ _ (hz p hp).1).1⟩
 ·rw[hs.fb] at hb
  obtain⟨k,vs,h1,h2,h3,h4⟩:=h.fb b cs hb
  exact⟨k,vs,h1,Nat.lt_of_lt_of_le h2 h.ext.size,h3,h4⟩
 ·unfold Does at hdoes
  refine hK j' _ w' ?_
  unfold FS.app
  refine Rel.put ?_ hv hd
  split at hdoes
  ·rename_i cs ty hal
   obtain⟨vs,h1,rfl,rfl⟩:=hdoes
   have hre:eff.re=.none:=by
    rcases hs.one with e | e
    ·rw[hal] at e; cases e.1
    ·exact e
   rw[hal,hre]
   exact h.new h1 (hs.nw (by rw[hal]; simp))
  ·rename_i hal
   rw[hal]
   have hre:=hs.re
   split at hdoes
   ·rename_i hr
    obtain⟨rfl,w1,h1,h2⟩:=hdoes
    rw[hr]
    exact(h.more h1).wrs h2
   ·rename_i id r hr
    have hwr:eff.wr=[]:=by
     rcases hs.one with e | e
     ·exact e.2
     ·rw[hr] at e; cases e
    obtain⟨rfl,s,h1,h2,h3⟩:=hdoes
    rw[hr] at hre
    rw[hr,hwr]
    exact h.set hre h1 h2 h3
   ·rename_i rs hr
    have hwr:eff.wr=[]:=by
     rcases hs.one with e | e
     ·exact e.2
     ·rw[hr] at e; cases e
    obtain⟨hx,svs,h1,h2,h3,h4,rfl⟩:=hdoes
    rw[hr] at hre
    rw[hr,hwr]
    exact h.made hre hx h1 h2 h3 h4
   ·rename_i old r hr
    have hwr:eff.wr=[]:=by
     rcases hs.one with e | e
     ·exact e.2
     ·rw[hr] at e; cases e
    obtain⟨s,s',h1,h2,h3,h4,h5,rfl⟩:=hdoes
    rw[hr] at hre
    rw[hr,hwr]
    exact h.app hre h1 h2 h3 h4 h5
   ·rename_i old q r hr
    have hwr:eff.wr=[]:=by
     rcases hs.one with e | e
     ·exact e.2
     ·rw[hr] at e; cases e
    obtain⟨rfl,s,s',h1,h2,h3,h4,h5,rfl⟩:=hdoes
    rw[hr] at hre
    rw[hr,hwr]
    exact h.view hre h1 h2 h3 h4 h5
   ·rename_i r hr
    have hwr:eff.wr=[]:=by
     rcases hs.one with e | e
     ·exact e.2
     ·rw[hr] at e; cases e
    obtain⟨rfl,s',h1,h2,h3,rfl⟩:=hdoes
    rw[hr] at hre
    rw[hr,hwr]
    exact h.peek hre h1 h2 h3
   ·rename_i old q r hr
    have hwr:eff.wr=[]:=by
     rcases hs.one with e | e
     ·exact e.2
     ·rw[hr] at e; cases e
    obtain⟨hx,s,s',h1,h2,h3,h4,h5,h6,rfl⟩:=hdoes
    rw[hr] at hre
    rw[hr,hwr]
    exact h.frz hre hx h1 h2 h3 h4 h5 h6
end
end Go.Proofs.Ytghiofgomcihcaa
set_option linter.unusedVariables false
set_option linter.unusedSimpArgs false
namespace Go.Proofs.Ytghiofgomcihcaa
open Go Go.RowKit
section
variable {P:Program} {ρ:Env} {n:Nat} {X:List Value} {W0:Wb} {fb:Nat→Option (List C)} {F:FS} {j:J} {a:Act} {w:World}
def FS.setl (F:FS) (id:Nat) (x:Option Lp):FS:={F with lp:=fun b=>if b=id then x else F.lp b}
def FS.endl (F:FS) (id:Nat):FS:={F with lp:=fun b=>if b=id then none else F.lp b,row:=fun b=>if b=id then some none else F.row b}
theorem wU (w:World) (l:Nat) (o:Obj):w.grownBy (w.putObj l o) (some l):=⟨rfl,rfl,rfl,by simp,fun k _ hk=>World.putObj_heap_other (fun e=>hk (by rw[e]))⟩
theorem Rel.putz (h:Rel ρ n X W0 fb F j a w) {l:Nat} {o:Obj} (hz:j.g.z l=some o) (ho:isCl o=false) (o':Obj) (x:Option Obj) {F':FS} {rf:Option Rf} (ht:F'.tmp=F.tmp) (hbx:F'.box=F.box) (hrw:∀b r,F'.row b=some (some r)→F.row b=some (some r)) (hrn:∀b,F'.row b=none→F.row b=none)
  {M:List Nat} {top:Bool} (hds:a.defers=({W0 with M:=M,top:=top,rf:=rf}:Wb).ds) (hM:∀D∈M,D∈W0.M∧D≠l) (hnd:M.Nodup) (hx:∀y,x=some y→y=o')
  (hlp:∀id y,F'.lp id=some y→∃r o,rf=some r∧j.g.y id=some r.l∧(j.setz l x).g.z r.l=some (.loop o)∧LoopIs r y o) (hnol:∀id,F'.row id=none→F'.lp id=none→j.g.y id=none):
  Rel ρ n X {W0 with M:=M,top:=top,rf:=rf} fb F' (j.setz l x) a (w.putObj l o'):=by
 have hs:=qn j l x
 obtain⟨hl1,hl0⟩:=h.gs.at' l o hz
 have hl2:=hl0 ho
 have hlt:=h.gs.lt hz
 have other:∀k,k≠l→(w.putObj l o').heap[k]? =w.heap[k]? :=fun k hk=>World.putObj_heap_other hk
 have hext:Ext W0.w (w.putObj l o'):=h.ext.grown' (wU w l o') (fun k hk=>by cases hk; exact hl2)
 refine⟨hds,h.size,fun t ht'=> ?_,fun i v hi=> ?_,fun b cs ty hF=> ?_,fun b hF=> ?_,h.inj,fun b r hF=> ?_,fun b hF=>h.nor b (hrn b hF),fun b b' k r s h1 h2 h3=>h.sep b b' k r s h1 (hrw b' r h2) h3,fun b b' r r' s s' k h1 h2 h3=>h.rsep b b' r r' s s' k (hrw b r h1) h2 (hrw b' r' h3),fun b cs hF=> ?_,hext,⟨fun k o1 hk=> ?_,fun k o1 b hk=> ?_,fun k o1 id r s hk hF hs' hc=> ?_,fun D hD=> ?_,hnd,hlp,hnol,fun id r s hF hs' p hp=> ?_⟩⟩
 ·obtain⟨v,h1,h2⟩:=h.tmp t ht'
  exact⟨v,h1,by rw[ht]; exact h2.imp id (V.den_sub hs)⟩
 ·rw[ht]; exact(h.sav i v hi).imp id (V.den_sub hs)
 ·rw[hbx] at hF
  obtain⟨k,vs,h1,h2,h3,h4⟩:=h.box b cs ty hF
  exact⟨k,vs,h1,h2,aH hs h3,by rw[other k (fun e=>h.gs.box l o b hz (e▸h1))]; exact h4⟩
 ·rw[hbx] at hF; exact h.nob b hF
 ·obtain⟨s,h1,h2⟩:=h.row b r (hrw b r hF)
  exact⟨s,h1,h2.kept (by simp) (fun k hk=>other k (fun e=>h.gs.row l o b r s hz (hrw b r hF) h1 (.inr ho) (e▸hk)))⟩
 ·obtain⟨k,vs,h1,h2,h3,h4⟩:=h.fb b cs hF
  refine⟨k,vs,h1,h2,aH hs h3,fun o1 v ho1 hs1=> ?_⟩
  rw[World.cell?_of_block (a:=⟨k,o1,none⟩) (other k (by have:k<W0.heap.size:=h2; omega))]
  exact h4 o1 v ho1 hs1
 ·simp only[J.setz,Gh.setz] at hk
  by_cases e:k=l
  ·subst e
   rw[if_pos rfl] at hk
   rw[hx o1 hk]
   exact⟨World.putObj_heap_same hlt,fun _=>hl2⟩
  ·rw[if_neg e] at hk
   rw[other k e]
   exact h.gs.at' k o1 hk
 ·simp only[J.setz,Gh.setz] at hk
  by_cases e:k=l
  ·subst e; exact h.gs.box k o b hz
  ·rw[if_neg e] at hk; exact h.gs.box k o1 b hk
 ·simp only[J.setz,Gh.setz] at hk
  by_cases e:k=l
  ·subst e; exact h.gs.row k o id r s hz (hrw id r hF) hs' (.inr ho)
  ·rw[if_neg e] at hk; exact h.gs.row k o1 id r s hk (hrw id r hF) hs' hc
 ·obtain⟨h1,h2⟩:=hM D hD
  show(if D=l then x else j.g.z D)=_
  rw[if_neg h2]
  exact h.gs.md D h1
 ·obtain⟨h1,h2⟩:=h.gs.ev id r s (hrw id r hF) hs' p hp
  refine⟨?_,h2⟩
  show(if p.1=l then x else j.g.z p.1)=_
  rw[if_neg (fun e=>by rw[e,hz] at h1; cases h1; rw[ho] at h2; cases h2)]
  exact h1
theorem Rel.lpZ (h:Rel ρ n X W0 fb F j a w) {id:Nat} {y:Lp} (hy:F.lp id=some y):∃rf o,W0.rf=some rf∧j.g.y id=some rf.l∧j.g.z rf.l=some (.loop o)∧w.heap[rf.l]? =some (.loop o)∧LoopIs rf y o∧rf.l ∉ W0.M:=by
 obtain⟨rf,o,h1,h2,h3,h4⟩:=h.gs.lp id y hy
 refine⟨rf,o,h1,h2,h3,(h.gs.at' _ _ h3).1,h4,fun hm=> ?_⟩
 have:=h.gs.md _ hm
 rw[h3] at this
 cases this
theorem Rel.loopSet (h:Rel ρ n X W0 fb F j a w) {id:Nat} {y:Lp} (hy:F.lp id=some y) (hone:∀i yi,F.lp i=some yi→i=id) {rf:Rf} {o:Loop} (hrf:W0.rf=some rf) (h2:j.g.y id=some rf.l) (hz:j.g.z rf.l=some (.loop o)) {y':Lp} {o':Loop} (hi:LoopIs rf y' o'):
  Rel ρ n X W0 fb (F.setl id (some y')) (j.setz rf.l (some (.loop o'))) a (w.putObj rf.l (.loop o')):=by
 have hm:rf.l ∉ W0.M:=fun hm=>by
  have:=h.gs.md _ hm
  rw[hz] at this
  cases this
 refine h.putz (F':=F.setl id (some y')) (M:=W0.M) (top:=W0.top) (rf:=W0.rf) hz rfl (.loop o') (some (.loop o')) rfl rfl (fun _ _ h=>h) (fun _ h=>h) h.defers (fun D hD=>⟨hD,fun e=>hm (e▸hD)⟩) h.gs.nd (fun y e=>(Option.some.inj e).symm) (fun i yi hyi=> ?_) (fun i hF hl=> ?_)
 ·simp only[FS.setl] at hyi
  by_cases e:i=id
  ·rw[if_pos e] at hyi
   cases hyi
   refine⟨rf,o',hrf,by rw[e]; exact h2,by simp[J.setz,Gh.setz],hi⟩
  ·rw[if_neg e] at hyi
   exact absurd (hone i yi hyi) e
 ·simp only[FS.setl] at hl
  by_cases e:i=id
  ·rw[if_pos e] at hl; cases hl
  ·rw[if_neg e] at hl
   exact h.gs.nol i hF hl
theorem Rel.loopEnd (h:Rel ρ n X W0 fb F j a w) {id:Nat} {y:Lp} (hy:F.lp id=some y) (hone:∀i yi,F.lp i=some yi→i=id) {rf:Rf} {o:Loop} (hz:j.g.z rf.l=some (.loop o)) (o':Obj):
  Rel ρ n X {W0 with rf:=none} fb (F.endl id) (j.setz rf.l none) a (w.putObj rf.l o'):=by
 have hm:rf.l ∉ W0.M:=fun hm=>by
  have:=h.gs.md _ hm
  rw[hz] at this
  cases this
 refine h.putz (F':=F.endl id) (M:=W0.M) (top:=W0.top) (rf:=none) hz rfl o' none rfl rfl (fun b r hb=> ?_) (fun b hb=> ?_) h.defers (fun D hD=>⟨hD,fun e=>hm (e▸hD)⟩) h.gs.nd (fun y e=>by cases e) (fun i yi hyi=> ?_) (fun i hF hl=> ?_)
 ·simp only[FS.endl] at hb
  split at hb
  ·cases hb
  ·exact hb
 ·simp only[FS.endl] at hb
  split at hb
  ·cases hb
  ·exact hb
 ·simp only[FS.endl] at hyi
  split at hyi
  ·cases hyi
  ·rename_i e; exact absurd (hone i yi hyi) e
 ·simp only[FS.endl] at hF hl
  split at hF
  ·cases hF
  ·rename_i e
   rw[if_neg e] at hl
   exact h.gs.nol i hF hl
theorem Rel.loopNew (h:Rel ρ n X W0 fb F j a w) {id:Nat} (hrow:F.row id=none) (hlp:F.lp id=none) (hrf:W0.rf=none) (htop:W0.top=true) {rf:Rf} {o:Loop} (hl:rf.l=w.heap.size+1) (hi:LoopIs rf ⟨.ready,none⟩ o):
  Rel ρ n X {W0 with M:=w.heap.size::W0.M,rf:=some rf} fb (F.setl id (some ⟨.ready,none⟩)) {j with g:=⟨fun b=>if b=id then some rf.l else j.g.y b,fun k=>if k=rf.l then some (.loop o) else if k=w.heap.size then some (.deferred (some [])) else j.g.z k⟩}
   {a with defers:={target:=.collected w.heap.size,args:= #[]}::a.defers} ((w.alloc (.deferred (some []))).alloc (.loop o)):=by
 have x1:Ext w (w.alloc (.deferred (some []))):=(Ext.refl w).alloc _
 have x2:Ext (w.alloc (.deferred (some []))) ((w.alloc (.deferred (some []))).alloc (.loop o)):=(Ext.refl _).alloc _
 have h':=(h.more x1).more x2
 have sz1:(w.alloc (.deferred (some []))).heap.size=w.heap.size+1:=World.size_alloc _ _
 have nol:=h.gs.nol id hrow hlp
 have hs:Sub j {j with g:=⟨fun b=>if b=id then some rf.l else j.g.y b,fun k=>if k=rf.l then some (.loop o) else if k=w.heap.size then some (.deferred (some [])) else j.g.z k⟩}:=⟨fun _ _ h=>h,fun _ _ h=>h,fun _ _ h=>h,fun b k hb=>by
  show(if b=id then some rf.l else j.g.y b)=some k
  by_cases e:b=id
  ·subst e; rw[nol] at hb; cases hb
  ·rw[if_neg e]; exact hb⟩
 have hL:((w.alloc (.deferred (some []))).alloc (.loop o)).heap[w.heap.size+1]? =some (.loop o):=by
  have:=World.alloc_heap_new (w.alloc (.deferred (some []))) (.loop o)
  rwa [sz1] at this
 have hD:((w.alloc (.deferred (some []))).alloc (.loop o)).heap[w.heap.size]? =some (.deferred (some [])):=(x2.block _ (by rw[sz1]; omega)).trans (World.alloc_heap_new w _)
 have hbase:=h.ext.size
 have boxlt:∀b k,j.b b=some k→k<w.heap.size:=fun b k hb=>by obtain⟨_,_,_,_,_,_,_,hlt⟩:=h.lt hb; exact hlt
 have rowlt:∀b r s k,F.row b=some (some r)→j.s b=some s→s.blk r.own=some k→k<w.heap.size:=fun b r s k hF hs hk=>by
  obtain⟨s',h1,h2⟩:=h.row b r hF
  rw[hs] at h1; cases h1
  exact h2.lt k hk
 have zcase:∀k o1,(if k=rf.l then some (.loop o) else if k=w.heap.size then some (.deferred (some [])) else j.g.z k)=some o1→(k=w.heap.size+1∧o1=.loop o)∨(k=w.heap.size∧o1=.deferred (some []))∨(k<w.heap.size∧j.g.z k=some o1):=by
  intro k o1 hk
  by_cases e:k=rf.l
  ·rw[if_pos e] at hk
   exact .inl ⟨e.trans hl,(Option.some.inj hk).symm⟩
  ·rw[if_neg e] at hk
   by_cases e2:k=w.heap.size
   ·rw[if_pos e2] at hk
    exact .inr (.inl ⟨e2,(Option.some.inj hk).symm⟩)
   ·rw[if_neg e2] at hk
    exact .inr (.inr ⟨h.gs.lt hk,hk⟩)
 refine⟨by simp only[h.defers,Wb.ds,htop,if_true,List.map_cons],h.size,fun t ht=> ?_,fun i v hi'=>(h'.sav i v hi').imp _root_.id (V.den_sub hs),fun b cs ty hF=> ?_,h'.nob,h'.inj,h'.row,h'.nor,h'.sep,h'.rsep,fun b cs hF=> ?_,h'.ext,⟨fun k o1 hk=> ?_,fun k o1 b hk e=> ?_,fun k o1 b r s hk hF hs' hc e=> ?_,fun D hD'=> ?_,?_,fun i yi hyi=> ?_,fun i hF hl'=> ?_,fun i r s hF hs' p hp=> ?_⟩⟩
 ·obtain⟨v,h1,h2⟩:=h'.tmp t ht
  exact⟨v,h1,h2.imp _root_.id (V.den_sub hs)⟩
 ·obtain⟨k,vs,h1,h2,h3,h4⟩:=h'.box b cs ty hF
  exact⟨k,vs,h1,h2,aH hs h3,h4⟩
 ·obtain⟨k,vs,h1,h2,h3,h4⟩:=h'.fb b cs hF
  exact⟨k,vs,h1,h2,aH hs h3,h4⟩
 ·rcases zcase k o1 hk with⟨rfl,rfl⟩ | ⟨rfl,rfl⟩ | ⟨h1,h2⟩
  ·exact⟨hL,fun _=>by show W0.heap.size≤_; have:W0.heap.size≤w.heap.size:=hbase; omega⟩
  ·exact⟨hD,fun _=>hbase⟩
  ·exact h'.gs.at' k o1 h2
 ·have:=boxlt b k e
  rcases zcase k o1 hk with⟨rfl,rfl⟩ | ⟨rfl,rfl⟩ | ⟨h1,h2⟩
  ·omega
  ·omega
  ·exact h.gs.box k o1 b h2 e
 ·have:=rowlt b r s k hF hs' e
  rcases zcase k o1 hk with⟨rfl,rfl⟩ | ⟨rfl,rfl⟩ | ⟨h1,h2⟩
  ·omega
  ·omega
  ·exact h.gs.row k o1 b r s h2 hF hs' hc e
 ·show(if D=rf.l then some (.loop o) else if D=w.heap.size then some (.deferred (some [])) else j.g.z D)=_
  rcases List.mem_cons.1 hD' with rfl | hD'
  ·rw[if_neg (by omega),if_pos rfl]
  ·have h1:=h.gs.md D hD'
   have h2:=h.gs.lt h1
   rw[if_neg (by omega),if_neg (by omega)]
   exact h1
 ·refine List.nodup_cons.2 ⟨fun hm=> ?_,h.gs.nd⟩
  have:=h.gs.lt (h.gs.md _ hm)
  omega
 ·simp only[FS.setl] at hyi
  by_cases e:i=id
  ·rw[if_pos e] at hyi
   cases hyi
   exact⟨rf,o,rfl,by simp[e],by simp,hi⟩
  ·rw[if_neg e] at hyi
   obtain⟨_,_,h1,_⟩:=h.gs.lp i yi hyi
   rw[hrf] at h1; cases h1
 ·simp only[FS.setl] at hl'
  by_cases e:i=id
  ·rw[if_pos e] at hl'; cases hl'
  ·rw[if_neg e] at hl'
   show(if i=id then some rf.l else j.g.y i)=none
   rw[if_neg e]
   exact h.gs.nol i hF hl'
 ·obtain⟨h1,h2⟩:=h.gs.ev i r s hF hs' p hp
  have h3:=h.gs.lt h1
  refine⟨?_,h2⟩
  show(if p.1=rf.l then some (.loop o) else if p.1=w.heap.size then some (.deferred (some [])) else j.g.z p.1)=_
  rw[if_neg (by omega),if_neg (by omega)]
  exact h1
theorem Rel.unmark:∀(M:List Nat) {W0:Wb} {F:FS} {j:J} {a:Act} {w:World},W0.M=M→Rel ρ n X W0 fb F j a w→∀{fn:Func} {R:Ending→World→Prop} {F1:Fence} {m:Nat} {tm:Array Value},(∀j' w',Rel ρ n X {W0 with M:=[]} fb F j' {a with defers:=({W0 with M:=[]}:Wb).ds} w'→LeavesInM F1 m P fn tm R [] .returning w')→
   LeavesInM F1 m P fn tm R (M.map fun D=>{target:=.collected D,args:= #[]}) .returning w
 | [],W0,F,j,a,w,hM,h,fn,R,F1,m,tm,hk=>by
   obtain⟨w0,M,top,rf⟩:=W0
   cases hM
   refine hk j w ?_
   have:=h.defers
   obtain⟨t,d⟩:=a
   cases this
   exact h
 | D::M,W0,F,j,a,w,hM,h,fn,R,F1,m,tm,hk=>by
   obtain⟨w0,M0,top,rf⟩:=W0
   cases hM
   have hz:=h.gs.md D List.mem_cons_self
   have hnd:=List.nodup_cons.1 h.gs.nd
   refine⟨(by simp),.inl ⟨D,_,rfl,run_takeDeferred (h.gs.at' _ _ hz).1,?_⟩⟩
   have h1:Rel ρ n X ⟨w0,M,top,rf⟩ fb F (j.setz D none) {a with defers:=(⟨w0,M,top,rf⟩:Wb).ds} (w.putObj D (.deferred none)):=by
    have h0:Rel ρ n X ⟨w0,D::M,top,rf⟩ fb F j a w:=h
    have:=Rel.putz (M:=M) (top:=top) (rf:=rf) (F':=F) (a:={a with defers:=(⟨w0,M,top,rf⟩:Wb).ds}) (W0:=⟨w0,M,top,rf⟩) (w:=w) (j:=j) (n:=n) (X:=X) (fb:=fb) (ρ:=ρ) (F:=F) ⟨rfl,h0.size,h0.tmp,h0.sav,h0.box,h0.nob,h0.inj,h0.row,h0.nor,h0.sep,h0.rsep,h0.fb,h0.ext,⟨h0.gs.at',h0.gs.box,h0.gs.row,fun D' hD'=>h0.gs.md D' (List.mem_cons_of_mem _ hD'),hnd.2,h0.gs.lp,h0.gs.nol,h0.gs.ev⟩⟩ hz rfl (.deferred none) none rfl rfl (fun _ _ h=>h) (fun _ h=>h) rfl (fun D' hD'=>⟨hD',fun e=>hnd.1 (e▸hD')⟩) hnd.2 (fun y e=>by cases e) (fun id y hy=> ?_) h0.gs.nol
    ·exact this
    ·obtain⟨r,o,g1,g2,g3,g4⟩:=h0.gs.lp id y hy
     refine⟨r,o,g1,g2,?_,g4⟩
     show(if r.l=D then none else j.g.z r.l)=_
     rw[if_neg (fun e=>by rw[e,hz] at g3; cases g3)]
     exact g3
   exact Rel.unmark M (W0:=⟨w0,M,top,rf⟩) rfl h1 (fun j' w' h2=>hk j' w' h2)
end
end Go.Proofs.Ytghiofgomcihcaa
