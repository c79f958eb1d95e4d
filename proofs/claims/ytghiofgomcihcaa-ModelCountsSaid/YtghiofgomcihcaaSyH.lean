import Derived.Test.YtghiofgomcihcaaSyG9
set_option linter.unusedVariables false
set_option linter.unusedSimpArgs false
namespace Go.Proofs.Ytghiofgomcihcaa
open Go.RowKit
structure FS where
 tmp:Nat→V
 box:Nat→Option (List C×Nat)
 row:Nat→Option (Option RowOb)
 lp:Nat→Option Lp
theorem FS.ext' {F F':FS} (h1:∀t,F.tmp t=F'.tmp t) (h2:∀b,F.box b=F'.box b) (h3:∀b,F.row b=F'.row b) (h4:∀b,F.lp b=F'.lp b):F=F':=by
 cases F; cases F'
 simp only[FS.mk.injEq]
 exact⟨funext h1,funext h2,funext h3,funext h4⟩
def FS.put (F:FS) (dst:Option Nat) (v:V):FS:={F with tmp:=fun t=>if dst=some t then v else F.tmp t}
def FS.new (F:FS) (nid:Nat) (x:List C×Nat):FS:={F with box:=fun b=>if b=nid then some x else F.box b}
def FS.wr (F:FS) (p:Nat×Nat×C):FS:={F with box:=fun b=>if b=p.1 then(F.box b).map (fun x=>(x.1.set p.2.1 p.2.2,x.2)) else F.box b}
def FS.wrs (F:FS) (l:List (Nat×Nat×C)):FS:=l.foldl FS.wr F
def FS.rw1 (F:FS) (p:Nat×Option RowOb):FS:={F with row:=fun b=>if b=p.1 then some p.2 else F.row b}
def FS.rws (F:FS) (l:List (Nat×Option RowOb)):FS:=l.foldl FS.rw1 F
def FS.app (F:FS) (dst:Option Nat) (nid:Nat) (eff:Eff):FS:=
 ((match eff.al with | some x=>F.new nid x | none=>F.wrs eff.wr).rws (eff.re.rs nid)).put dst eff.val
def evF (F:FS) (n:Nat):Operand→Option V
 | .tmp t=>if t<n then(match F.tmp t with | .top=>none | v=>some v) else none
 | .const v=>ofValue v
 | .global _=>none
 | .func f=>some (.one (.fn f))
def ldF (F:FS) (b o:Nat):Option C:=(F.box b).bind fun x=>x.1[o]?
def rwF (F:FS) (id:Nat):Option RowOb:=(F.row id).bind fun x=>x
structure Rf where
 ps:Array Tmp
 assign:Code
 body:Code
 tmps:Array Value
 l:Nat
structure Wb where
 w:World
 M:List Nat
 top:Bool
 rf:Option Rf
abbrev Wb.heap (b:Wb):Array Obj:=b.w.heap
def Wb.ds (b:Wb):List Deferred:=if b.top then b.M.map fun D=>{target:=.collected D,args:= #[]} else[]
def LS.st:LS→LoopState
 | .ready=>.ready
 | .busy=>.busy
 | .done=>.done
def Sig.code:Sig→Code
 | .normal=>.skip
 | .exit id=>.exit id
 | .ret=>.ret
structure LoopIs (rf:Rf) (y:Lp) (o:Loop):Prop where
 st:o.state=y.st.st
 pend:o.pending=y.pend.map Sig.code
 ps:o.params=rf.ps
 assign:o.assign=rf.assign
 body:o.body=rf.body
 tmps:o.tmps=rf.tmps
structure Frz (W0:Wb) (F:FS) (j:J) (w:World):Prop where
 at':∀k o,j.g.z k=some o→w.heap[k]? =some o∧(isCl o=false→W0.heap.size≤k)
 box:∀k o b,j.g.z k=some o→j.b b≠some k
 row:∀k o id r s,j.g.z k=some o→F.row id=some (some r)→j.s id=some s→(r.own=true∨isCl o=false)→s.blk r.own≠some k
 md:∀D∈W0.M,j.g.z D=some (.deferred (some []))
 nd:W0.M.Nodup
 lp:∀id y,F.lp id=some y→∃rf o,W0.rf=some rf∧j.g.y id=some rf.l∧j.g.z rf.l=some (.loop o)∧LoopIs rf y o
 nol:∀id,F.row id=none→F.lp id=none→j.g.y id=none
 ev:∀id r s,F.row id=some (some r)→j.s id=some s→Zin j s
theorem Frz.lt {W0:Wb} {F:FS} {j:J} {w:World} (h:Frz W0 F j w) {k:Nat} {o:Obj} (hz:j.g.z k=some o):k<w.heap.size:=(Array.getElem?_eq_some_iff.1 (h.at' k o hz).1).1
theorem Frz.step {W0:Wb} {F F':FS} {j j':J} {w w':World} (h:Frz W0 F j w) (hg:j'.g=j.g) (hl:F'.lp=F.lp) (hn:∀id,F'.row id=none→F.row id=none)
  (hh:∀k o,j.g.z k=some o→w'.heap[k]? =w.heap[k]?) (hb:∀b k,j'.b b=some k→j.b b=some k∨w.heap.size≤k)
  (hr:∀id r s,F'.row id=some (some r)→j'.s id=some s→(∃id0 r0 s0,F.row id0=some (some r0)∧j.s id0=some s0∧(r.own=true→r0.own=true)∧∀k,s.blk r.own=some k→s0.blk r0.own=some k∨w.heap.size≤k)∨(∀k,s.blk r.own=some k→w.heap.size≤k)) (hv:∀id r s,F'.row id=some (some r)→j'.s id=some s→Zin j s):Frz W0 F' j' w' where
 at' k o hz:=by rw[hg] at hz; rw[hh k o hz]; exact h.at' k o hz
 box k o b hz e:=by
  rw[hg] at hz
  rcases hb b k e with h1 | h1
  ·exact h.box k o b hz h1
  ·have:=h.lt hz; omega
 row k o id r s hz hF hs hc e:=by
  rw[hg] at hz
  have:=h.lt hz
  rcases hr id r s hF hs with⟨id0,r0,s0,h1,h2,h3,h4⟩ | h1
  ·rcases h4 k e with h4 | h4
   ·exact h.row k o id0 r0 s0 hz h1 h2 (hc.imp h3 _root_.id) h4
   ·omega
  ·have:=h1 k e; omega
 md D hD:=by rw[hg]; exact h.md D hD
 nd:=h.nd
 lp id y hy:=by rw[hg]; rw[hl] at hy; exact h.lp id y hy
 nol id hF hy:=by rw[hg]; rw[hl] at hy; exact h.nol id (hn id hF) hy
 ev id r s hF hs:=fun p hp=>by rw[hg]; exact hv id r s hF hs p hp
structure Rel (ρ:Env) (n:Nat) (X:List Value) (W0:Wb) (fb:Nat→Option (List C)) (F:FS) (j:J) (a:Act) (w:World):Prop where
 defers:a.defers=W0.ds
 size:a.tmps.size=n
 tmp:∀t,t<n→∃v,a.tmps[t]? =some v∧(F.tmp t=.top∨(F.tmp t).den ρ j=some v)
 sav:∀(i:Nat) v,X[i]? =some v→F.tmp (n+i)=.top∨(F.tmp (n+i)).den ρ j=some v
 box:∀b cs ty,F.box b=some (cs,ty)→∃k vs,j.b b=some k∧W0.heap.size≤k∧denL ρ j cs=some vs∧w.heap[k]? =some (.cells vs.toArray ty (0,0))
 nob:∀b,F.box b=none→j.b b=none
 inj:∀b b' k,j.b b=some k→j.b b'=some k→b=b'
 row:∀b r,F.row b=some (some r)→∃s,j.s b=some s∧RowOk ρ W0.heap.size w s r
 nor:∀b,F.row b=none→j.s b=none
 sep:∀b b' k r s,j.b b=some k→F.row b'=some (some r)→j.s b'=some s→s.blk r.own≠some k
 rsep:∀b b' r r' s s' k,F.row b=some (some r)→r.own=true→F.row b'=some (some r')→j.s b=some s→j.s b'=some s'→s.blk r.own=some k→s'.blk r'.own=some k→b=b'
 fb:∀b cs,fb b=some cs→∃k vs,j.f b=some k∧k<W0.heap.size∧denL ρ j cs=some vs∧∀o v,vs[o]? =some v→dA cs o=true→w.cell? ⟨k,o,none⟩=some v
 ext:Ext W0.w w
 gs:Frz W0 F j w
section
variable {P:Program} {ρ:Env} {n:Nat} {X:List Value} {W0:Wb} {fb:Nat→Option (List C)} {F:FS} {j:J} {a:Act} {w:World}
theorem Rel.lt (h:Rel ρ n X W0 fb F j a w) {b k:Nat} (hb:j.b b=some k):∃cs ty vs,F.box b=some (cs,ty)∧W0.heap.size≤k∧denL ρ j cs=some vs∧w.heap[k]? =some (.cells vs.toArray ty (0,0))∧k<w.heap.size:=by
 cases hF:F.box b with
 | none=>rw[h.nob b hF] at hb; cases hb
 | some x=>
   obtain⟨cs,ty⟩:=x
   obtain⟨k',vs,h1,h2,h3,h4⟩:=h.box b cs ty hF
   rw[hb] at h1; cases h1
   refine⟨cs,ty,vs,rfl,h2,h3,h4,?_⟩
   rcases Nat.lt_or_ge k w.heap.size with hlt | hge
   ·exact hlt
   ·rw[Array.getElem?_eq_none hge] at h4; cases h4
theorem lW {k o ty:Nat} {vs:List Value} (h:w.heap[k]? =some (.cells vs.toArray ty (0,0))):w.cell? ⟨k,o,none⟩=vs[o]? :=by
 simp[World.cell?,h]
theorem rV {k o ty:Nat} {vs:List Value} (h:w.heap[k]? =some (.cells vs.toArray ty (0,0))):w.frozen? ⟨k,o,none⟩=false:=by
 simp[World.frozen?,h]
theorem Rel.eval (h:Rel ρ n X W0 fb F j a w) {x:Operand} {v:V} (hx:evF F n x=some v):v.den ρ j=some (a.eval x):=by
 cases x with
 | tmp t=>
   simp only[evF] at hx
   split at hx
   ·rename_i ht
    split at hx
    ·cases hx
    ·rename_i hne
     cases hx
     obtain⟨u,h1,h2⟩:=h.tmp t ht
     rcases h2 with h2 | h2
     ·exact absurd h2 hne
     ·rw[h2]
      simp[Act.eval,Array.getD_eq_getD_getElem?,h1]
   ·cases hx
 | const v0=>exact rI hx ρ j
 | global g=>cases hx
 | func f=>cases hx; rfl
theorem Ext.grown' {w0 w w':World} {row:Option Nat} (h:Ext w0 w) (hg:w.grownBy w' row) (hr:∀k,row=some k→w0.heap.size≤k):Ext w0 w':=Below.grown h hg h.size hr
theorem Ext.block' {w0 w:World} (h:Ext w0 w) (k:Nat) (hk:k<w0.heap.size):w.heap[k]? =w0.heap[k]? :=h.block k hk
theorem qc {w w':World} {base ty esz n:Nat} {s:SV} {xs:List Value} (h:w.ownsRow base ty esz s.v n xs) (hb:∀k,s.v.ownBlock=some k→w'.heap[k]? =w.heap[k]?):w'.ownsRow base ty esz s.v n xs:=by
 refine⟨h.1,?_⟩
 rcases h.2 with h' | ⟨g,cap,cur,hv,h1,h2,h3⟩
 ·exact .inl h'
 ·exact .inr ⟨g,cap,cur,hv,h1,by rw[hb g (by rw[hv]; rfl)]; exact h2,h3⟩
theorem SlOk.kept {base:Nat} {w w':World} {s:SV} {r:RowOb} (h:SlOk ρ base w s r) (hsz:w.heap.size≤w'.heap.size) (hb:∀k,s.blk r.own=some k→w'.heap[k]? =w.heap[k]?):SlOk ρ base w' s r:=
 ⟨h.n,h.rows,h.pos,fun k hk=>Nat.lt_of_lt_of_le (h.lt k hk) hsz,fun ho=>qc (h.own ho) (by rw[ho] at hb; exact hb),h.rd.kept (fun k hk=>hb k (aV hk))⟩
theorem SlOk.base {b1 b2:Nat} {w:World} {s:SV} {r:RowOb} (h:SlOk ρ b1 w s r) (hb:b2≤b1):SlOk ρ b2 w s r:=
 ⟨h.n,h.rows,h.pos,h.lt,fun ho=>(h.own ho).mono hb,h.rd⟩
theorem EvOk.kept {base:Nat} {w w':World} {s:SV} {r:RowOb} (h:EvOk ρ base w s r) (hsz:w.heap.size≤w'.heap.size) (hb:∀k,s.blk r.own=some k→w'.heap[k]? =w.heap[k]?):EvOk ρ base w' s r:=by
 obtain⟨ins,h1,h2,h3,h4⟩:=h.at'
 exact⟨h.ks,h.n,h.rows,fun k hk=>Nat.lt_of_lt_of_le (h.lt k hk) hsz,h.zb,ins,h1,fun ho=>qc (h2 ho) (by rw[ho] at hb; exact hb),h3.kept (fun k hk=>hb k (aV hk)),h4⟩
theorem RowOk.kept {base:Nat} {w w':World} {s:SV} {r:RowOb} (h:RowOk ρ base w s r) (hsz:w.heap.size≤w'.heap.size) (hb:∀k,s.blk r.own=some k→w'.heap[k]? =w.heap[k]?):RowOk ρ base w' s r:=by
 rcases h.cases with⟨hk,h⟩ | ⟨hk,h⟩ | ⟨hk,h⟩
 ·exact(h.kept hsz hb).row hk
 ·obtain⟨g,ob,h1,h2,h3,h4⟩:=h.at'
  exact HdOk.row ⟨h.own,h.rows,h.c,g,ob,h1,h2,by rw[hb g (h.blkAt h1 r.own)]; exact h3,h4⟩ hk
 ·exact(h.kept hsz hb).row hk
theorem RowOk.base {b1 b2:Nat} {w:World} {s:SV} {r:RowOb} (h:RowOk ρ b1 w s r) (hb:b2≤b1):RowOk ρ b2 w s r:=by
 rcases h.cases with⟨hk,h⟩ | ⟨hk,h⟩ | ⟨hk,h⟩
 ·exact(h.base hb).row hk
 ·obtain⟨g,ob,h1,h2,h3,h4⟩:=h.at'
  exact HdOk.row ⟨h.own,h.rows,h.c,g,ob,h1,Nat.le_trans hb h2,h3,h4⟩ hk
 ·obtain⟨ins,h1,h2,h3,h4⟩:=h.at'
  exact EvOk.row ⟨h.ks,h.n,h.rows,h.lt,fun ho p hp=>Nat.le_trans hb (h.zb ho p hp),ins,h1,fun ho=>(h2 ho).mono hb,h3,h4⟩ hk
theorem Rel.kept (h:Rel ρ n X W0 fb F j a w) {w':World} (hx:Ext W0.w w') (hsz:w.heap.size≤w'.heap.size)
  (hb:∀b k,j.b b=some k→w'.heap[k]? =w.heap[k]?) (hr:∀b r s k,F.row b=some (some r)→j.s b=some s→s.blk r.own=some k→w'.heap[k]? =w.heap[k]?) (hz:∀k o,j.g.z k=some o→w'.heap[k]? =w.heap[k]?):Rel ρ n X W0 fb F j a w' where
 defers:=h.defers
 size:=h.size
 tmp:=h.tmp
 sav:=h.sav
 box b cs ty hF:=by
  obtain⟨k,vs,h1,h2,h3,h4⟩:=h.box b cs ty hF
  exact⟨k,vs,h1,h2,h3,by rw[hb b k h1]; exact h4⟩
 nob:=h.nob
 inj:=h.inj
 row b r hF:=by
  obtain⟨s,h1,h2⟩:=h.row b r hF
  exact⟨s,h1,h2.kept hsz (fun k hk=>hr b r s k hF h1 hk)⟩
 nor:=h.nor
 sep:=h.sep
 rsep:=h.rsep
 fb b cs hF:=by
  obtain⟨k,vs,h1,h2,h3,h4⟩:=h.fb b cs hF
  refine⟨k,vs,h1,h2,h3,fun o v ho hs=> ?_⟩
  have h5:=h4 o v ho hs
  have e1:w'.heap[k]? =w.heap[k]? :=(hx.block k h2).trans (h.ext.block k h2).symm
  rw[World.cell?_of_block (a:=⟨k,o,none⟩) e1]; exact h5
 ext:=hx
 gs:=h.gs.step rfl rfl (fun _ h=>h) hz (fun _ _ h=>.inl h) (fun id r s h1 h2=>.inl ⟨id,r,s,h1,h2,fun h=>h,fun _ h=>.inl h⟩) h.gs.ev
theorem Rel.more (h:Rel ρ n X W0 fb F j a w) {w1:World} (hx:Ext w w1):Rel ρ n X W0 fb F j a w1:=
 h.kept (h.ext.trans hx) hx.size (fun b k hk=>by
  obtain⟨_,_,_,_,_,_,_,hlt⟩:=h.lt hk
  exact hx.block k hlt) (fun b r s k hF hs hk=>by
  obtain⟨s',h1,h2⟩:=h.row b r hF
  rw[hs] at h1; cases h1
  exact hx.block k (h2.lt k hk)) (fun k o hz=>hx.block k (h.gs.lt hz))
theorem Rel.put (h:Rel ρ n X W0 fb F j a w) {dst:Option Nat} {v:V} {u:Value} (hv:v.den ρ j=some u) (hd:∀d,dst=some d→d<n):Rel ρ n X W0 fb (F.put dst v) j (a.put dst u) w where
 defers:=by cases dst<;>simp[Act.put,h.defers]
 size:=by cases dst<;>simp[Act.put,h.size]
 tmp t ht:=by
  cases dst with
  | none=>simpa[FS.put,Act.put] using h.tmp t ht
  | some d=>
    by_cases hdt:d=t
    ·subst hdt
     exact⟨u,by simp[Act.put,Array.getElem?_setIfInBounds,h.size,ht],.inr (by simp[FS.put,hv])⟩
    ·obtain⟨x,h1,h2⟩:=h.tmp t ht
     exact⟨x,by simp[Act.put,Array.getElem?_setIfInBounds,hdt,h1],by simpa[FS.put,hdt] using h2⟩
 sav i v hi:=by
  have:¬dst=some (n+i):=fun e=>by have:=hd _ e; omega
  simpa only[FS.put,this,if_false] using h.sav i v hi
 box:=h.box
 nob:=h.nob
 inj:=h.inj
 row:=h.row
 nor:=h.nor
 sep:=h.sep
 rsep:=h.rsep
 fb:=h.fb
 ext:=h.ext
 gs:=h.gs.step rfl rfl (fun _ h=>h) (fun _ _ _=>rfl) (fun _ _ h=>.inl h) (fun id r s h1 h2=>.inl ⟨id,r,s,h1,h2,fun h=>h,fun _ h=>.inl h⟩) h.gs.ev
theorem Rel.new (h:Rel ρ n X W0 fb F j a w) {nid ty:Nat} {cs:List C} {vs:List Value} (hd:denL ρ j cs=some vs) (hn:F.box nid=none):
  Rel ρ n X W0 fb (F.new nid (cs,ty)) {j with b:=fun b=>if b=nid then some w.heap.size else j.b b} a (w.alloc (.cells vs.toArray ty)):=by
 have hs:Sub j {j with b:=fun b=>if b=nid then some w.heap.size else j.b b}:=⟨fun b k hb=>by
  have:b≠nid:=fun e=>by rw[e,h.nob nid hn] at hb; cases hb
  simp[this,hb],fun _ _ hb=>hb,fun _ _ hb=>hb,fun _ _ hb=>hb⟩
 have h':=h.more ((Ext.refl w).alloc (.cells vs.toArray ty))
 refine⟨h.defers,h.size,fun t ht=> ?_,fun i v hi=>(h.sav i v hi).imp id (V.den_sub hs),fun b cs' ty' hF=> ?_,fun b hF=> ?_,fun b b' k h1 h2=> ?_,h'.row,h'.nor,fun b b' k r s h1 h2 h3 h4=> ?_,h'.rsep,fun b cs hF=> ?_,h'.ext,h.gs.step rfl rfl (fun _ h=>h) (fun k o hz=>((Ext.refl w).alloc (.cells vs.toArray ty)).block k (h.gs.lt hz)) (fun b k hb=> ?_) (fun id r s h1 h2=>.inl ⟨id,r,s,h1,h2,fun h=>h,fun _ h=>.inl h⟩) h.gs.ev⟩
 ·obtain⟨v,h1,h2⟩:=h.tmp t ht
  exact⟨v,h1,h2.imp id (V.den_sub hs)⟩
 ·by_cases hb:b=nid
  ·simp only[FS.new,hb,if_true,Option.some.injEq,Prod.mk.injEq] at hF
   obtain⟨rfl,rfl⟩:=hF
   exact⟨w.heap.size,vs,by simp[hb],h.ext.size,aG hs hd,by exact heap_alloc_new _ _⟩
  ·simp only[FS.new,hb,if_false] at hF
   obtain⟨k,us,h1,h2,h3,h4⟩:=h'.box b cs' ty' hF
   exact⟨k,us,by simp[hb,h1],h2,aG hs h3,h4⟩
 ·by_cases hb:b=nid
  ·simp[FS.new,hb] at hF
  ·simp only[FS.new,hb,if_false] at hF
   simp[hb,h.nob b hF]
 ·by_cases hb:b=nid<;>by_cases hb':b'=nid<;>simp only[hb,hb',if_true,if_false] at h1 h2
  ·rw[hb,hb']
  ·obtain⟨_,_,_,_,_,_,_,hlt⟩:=h.lt h2
   cases h1; omega
  ·obtain⟨_,_,_,_,_,_,_,hlt⟩:=h.lt h1
   cases h2; omega
  ·exact h.inj b b' k h1 h2
 ·by_cases hb:b=nid
  ·simp only[hb,if_true,Option.some.injEq] at h1
   obtain⟨s',h5,h6⟩:=h.row b' r h2
   rw[h3] at h5; cases h5
   have:=h6.lt k h4
   omega
  ·simp only[hb,if_false] at h1
   exact h.sep b b' k r s h1 h2 h3 h4
 ·obtain⟨k,us,h1,h2,h3,h4⟩:=h'.fb b cs hF
  exact⟨k,us,h1,h2,aG hs h3,h4⟩
 ·dsimp only at hb
  split at hb
  ·cases hb; exact .inr (Nat.le_refl _)
  ·exact .inl hb
theorem Rel.wr1 (h:Rel ρ n X W0 fb F j a w) {b o:Nat} {c:C} {k:Nat} {v:Value} (hk:j.b b=some k) (hv:c.den ρ j=some v):Rel ρ n X W0 fb (F.wr (b,o,c)) j a (w.setCell ⟨k,o,none⟩ v):=by
 obtain⟨cs,ty,vs,hF,hge,hd,hh,hlt⟩:=h.lt hk
 have other:∀k',k'≠k→(w.setCell ⟨k,o,none⟩ v).heap[k']? =w.heap[k']? :=fun k' hne=>heap_setCell_other w ⟨k,o,none⟩ k' v hne
 have hx:Ext W0.w (w.setCell ⟨k,o,none⟩ v):=h.ext.setCell hge v
 have hsz:w.heap.size≤(w.setCell ⟨k,o,none⟩ v).heap.size:=by simp[World.setCell]
 refine⟨h.defers,h.size,h.tmp,h.sav,fun b' cs' ty' hF'=> ?_,fun b' hF'=> ?_,h.inj,fun b' r hF'=> ?_,h.nor,h.sep,h.rsep,fun b' cs' hF'=> ?_,hx,h.gs.step rfl rfl (fun _ h=>h) (fun k' o' hz=>other k' (fun e=>h.gs.box k' o' b hz (e▸hk))) (fun _ _ h=>.inl h) (fun id r s h1 h2=>.inl ⟨id,r,s,h1,h2,fun h=>h,fun _ h=>.inl h⟩) h.gs.ev⟩
 ·by_cases hb:b'=b
  ·subst hb
   simp only[FS.wr,if_true,hF,Option.map_some,Option.some.injEq,Prod.mk.injEq] at hF'
   obtain⟨rfl,rfl⟩:=hF'
   refine⟨k,vs.set o v,hk,hge,lT hd o c v hv,?_⟩
   have:=heap_setCell_same w k o vs.toArray ty v hh
   simpa using this
  ·simp only[FS.wr,hb,if_false] at hF'
   obtain⟨k',us,h1,h2,h3,h4⟩:=h.box b' cs' ty' hF'
   exact⟨k',us,h1,h2,h3,by rw[other k' (fun e=>hb (h.inj b' b k (by rw[h1,e]) hk))]; exact h4⟩
 ·by_cases hb:b'=b
  ·subst hb; simp[FS.wr,hF] at hF'
  ·simp only[FS.wr,hb,if_false] at hF'
   exact h.nob b' hF'
 ·obtain⟨s,h1,h2⟩:=h.row b' r hF'
  exact⟨s,h1,h2.kept hsz (fun k' hk'=>other k' (fun e=>h.sep b b' k r s hk hF' h1 (e▸hk')))⟩
 ·obtain⟨k',us,h1,h2,h3,h4⟩:=h.fb b' cs' hF'
  refine⟨k',us,h1,h2,h3,fun o' v' ho hs'=> ?_⟩
  rw[World.cell?_of_block (a:=⟨k',o',none⟩) (other k' (by omega))]
  exact h4 o' v' ho hs'
theorem Rel.wrs:∀{l:List (Nat×Nat×C)} {F:FS} {w w':World},Rel ρ n X W0 fb F j a w→kO ρ j l w w'→Rel ρ n X W0 fb (F.wrs l) j a w'
 | [],F,w,w',h,hw=>by
   have e:w'=w:=hw
   subst e
   exact h
 | (b,o,c)::l,F,w,w',h,hw=>by
   obtain⟨k,v,hk,hv,hw'⟩:=hw
   exact Rel.wrs (F:=F.wr (b,o,c)) (h.wr1 hk hv) hw'
theorem Rel.turn (h:Rel ρ n X W0 fb F j a w) {w':World} {id:Nat} {q:RowOb} {s:SV} (hq:F.row id=some (some q)) (hown:q.own=true) (hs:j.s id=some s) (hg:w.grownBy w' s.v.ownBlock):
  Ext W0.w w'∧(∀b k,j.b b=some k→w'.heap[k]? =w.heap[k]?)∧(∀b r s' k,b≠id→F.row b=some (some r)→j.s b=some s'→s'.blk r.own=some k→w'.heap[k]? =w.heap[k]?)∧(∀k o,j.g.z k=some o→w'.heap[k]? =w.heap[k]?):=by
 obtain⟨s0,h1,h2⟩:=h.row id q hq
 rw[hs] at h1; cases h1
 refine⟨h.ext.grown' hg (fun k hk=>(h2.owned hown k hk).2),fun b k hb=> ?_,fun b r s' k hne hF hs' hk=> ?_,fun k o hz=>hg.block k (h.gs.lt hz) (fun e=>h.gs.row k o id q s hz hq hs (.inl hown) (by rw[hown]; exact e.symm))⟩
 ·obtain⟨_,_,_,_,_,_,_,hlt⟩:=h.lt hb
  exact hg.block k hlt (fun e=>h.sep b id k q s hb hq hs (by rw[hown]; exact e.symm))
 ·obtain⟨s1,h3,h4⟩:=h.row b r hF
  rw[hs'] at h3; cases h3
  exact hg.block k (h4.lt k hk) (fun e=>hne (h.rsep id b q r s s' k hq hown hF hs hs' (by rw[hown]; exact e.symm) hk).symm)
end
end Go.Proofs.Ytghiofgomcihcaa
