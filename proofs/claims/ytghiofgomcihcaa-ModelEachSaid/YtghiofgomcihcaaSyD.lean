import Derived.Test.YtghiofgomcihcaaSyC
import Derived.Calls
import Derived.Laws.OwnMore
import Derived.Deep.Onto
set_option linter.unusedVariables false
set_option linter.unusedSimpArgs false
namespace Go.Proofs.Ytghiofgomcihcaa
open Go.RowKit
def RdOk (ρ:Env) (j:J) (w:World) (ld:Nat→Nat→Option C) (rd:List (Nat×Nat)):Prop:=
 ∀p∈rd,∀c,ld p.1 p.2=some c→∃k v,j.b p.1=some k∧c.den ρ j=some v∧w.cell? ⟨k,p.2,none⟩=some v
def WrOk (j:J) (w:World) (wr:List (Nat×Nat×C)):Prop:=
 ∀p∈wr,∃k u,j.b p.1=some k∧w.cell? ⟨k,p.2.1,none⟩=some u∧w.frozen? ⟨k,p.2.1,none⟩=false
def lB (ρ:Env) (j:J):List (Nat×Nat×C)→World→World→Prop
 | [],w,w'=>w'=w
 | (b,o,c)::l,w,w'=>∃k v,j.b b=some k∧c.den ρ j=some v∧lB ρ j l (w.setCell ⟨k,o,none⟩ v) w'
theorem bM:∀{ks:List CE} {r:List Int},ar ks r=true→(rowV ks r).length=ks.length
 | [],[],_=>rfl
 | k::ks,x::xs,h=>by
   simp only[ar,Bool.and_eq_true] at h
   simp[rowV,bM h.2]
theorem iT:∀{ks:List CE} {r:List Int} {c:Nat} {k:CE},ar ks r=true→ks[c]? =some k→(rowV ks r)[c]? =some (fA k (r.getD c 0))
 | k0::ks,x::xs,c,k,h,hc=>by
   simp only[ar,Bool.and_eq_true] at h
   cases c with
   | zero=>simp at hc; subst hc; simp[rowV]
   | succ c=>simpa[rowV] using iT h.2 (by simpa using hc)
 | [],_,c,k,_,hc=>by simp at hc
theorem qU:∀{ks:List CE} {r:List Int} {c:Nat} {k:CE},ar ks r=true→ks[c]? =some k→∀x,(rowV ks r).set c (fA k x)=rowV ks (r.set c x)
 | k0::ks,y::ys,c,k,h,hc,x=>by
   simp only[ar,Bool.and_eq_true] at h
   cases c with
   | zero=>simp at hc; subst hc; simp[rowV]
   | succ c=>simp[rowV,qU h.2 (by simpa using hc) x]
 | [],_,c,k,_,hc,_=>by simp at hc
theorem yX (ks:List CE):flat ks []=[]:=rfl
theorem bj (ks:List CE) (r:List Int) (L:List (List Int)):flat ks (r::L)=rowV ks r++flat ks L:=by simp[flat]
theorem du (ks:List CE) (L M:List (List Int)):flat ks (L++M)=flat ks L++flat ks M:=by simp[flat]
theorem aL {ks:List CE}:∀{L:List (List Int)},(∀r∈L,ar ks r=true)→(flat ks L).length=L.length*ks.length
 | [],_=>by simp[flat]
 | r::L,h=>by
   rw[bj,List.length_append,bM (h r List.mem_cons_self),aL (fun x hx=>h x (List.mem_cons_of_mem _ hx)),List.length_cons,Nat.succ_mul,Nat.add_comm]
theorem iZ {ks:List CE} {c:Nat} {k:CE} (hc:ks[c]? =some k):∀{L:List (List Int)} {i:Nat},(∀r∈L,ar ks r=true)→i<L.length→(flat ks L)[i*ks.length+c]? =some (fA k ((L.getD i []).getD c 0))
 | [],i,_,hi=>absurd hi (by simp)
 | r::L,i,h,hi=>by
   have hcl:c<ks.length:=by
    rcases Nat.lt_or_ge c ks.length with h1 | h1
    ·exact h1
    ·rw[List.getElem?_eq_none h1] at hc; cases hc
   have hl:=bM (h r List.mem_cons_self)
   cases i with
   | zero=>
     rw[bj,Nat.zero_mul,Nat.zero_add,List.getElem?_append_left (by omega),iT (h r List.mem_cons_self) hc]
     rfl
   | succ i=>
     rw[bj,List.getElem?_append_right (by rw[hl,Nat.succ_mul]; omega),hl,show(i+1)*ks.length+c-ks.length=i*ks.length+c by rw[Nat.succ_mul]; omega]
     rw[iZ hc (fun x hx=>h x (List.mem_cons_of_mem _ hx)) (by simpa using hi)]
     rfl
theorem gm {ks:List CE}:∀{L:List (List Int)} (n:Nat),(∀r∈L,ar ks r=true)→(flat ks L).take (n*ks.length)=flat ks (L.take n)
 | [],n,_=>by simp[flat]
 | r::L,n,h=>by
   have hl:=bM (h r List.mem_cons_self)
   cases n with
   | zero=>simp[flat]
   | succ n=>
     rw[bj,List.take_succ_cons,bj,←gm n (fun x hx=>h x (List.mem_cons_of_mem _ hx)),List.take_append,hl,Nat.succ_mul,List.take_of_length_le (by omega)]
     congr 2
     omega
theorem gn {ks:List CE}:∀{L:List (List Int)} (n:Nat),(∀r∈L,ar ks r=true)→(flat ks L).drop (n*ks.length)=flat ks (L.drop n)
 | [],n,_=>by simp[flat]
 | r::L,n,h=>by
   have hl:=bM (h r List.mem_cons_self)
   cases n with
   | zero=>simp[flat]
   | succ n=>
     rw[bj,List.drop_succ_cons,←gn n (fun x hx=>h x (List.mem_cons_of_mem _ hx)),List.drop_append,hl,Nat.succ_mul,List.drop_of_length_le (by omega),List.nil_append]
     congr 1
     omega
theorem rU {ks:List CE} {c:Nat} {k:CE} (hc:ks[c]? =some k) (x:Int):∀{L:List (List Int)} {i:Nat},(∀r∈L,ar ks r=true)→i<L.length→(flat ks L).set (i*ks.length+c) (fA k x)=flat ks (L.set i ((L.getD i []).set c x))
 | [],i,_,hi=>absurd hi (by simp)
 | r::L,i,h,hi=>by
   have hcl:c<ks.length:=by
    rcases Nat.lt_or_ge c ks.length with h1 | h1
    ·exact h1
    ·rw[List.getElem?_eq_none h1] at hc; cases hc
   have hl:=bM (h r List.mem_cons_self)
   cases i with
   | zero=>
     rw[bj,Nat.zero_mul,Nat.zero_add,List.set_append_left _ _ (by omega),qU (h r List.mem_cons_self) hc]
     rfl
   | succ i=>
     rw[bj,List.set_append_right _ _ (by rw[hl,Nat.succ_mul]; omega),hl,show(i+1)*ks.length+c-ks.length=i*ks.length+c by rw[Nat.succ_mul]; omega]
     rw[rU hc x (fun y hy=>h y (List.mem_cons_of_mem _ hy)) (by simpa using hi)]
     show _=flat ks (r::L.set i _)
     rw[bj]
     rfl
theorem eE {ks:List CE}:∀{L:List (List Int)},∀u∈flat ks L,u.oneCell'=true:=by
 have row:∀(ks:List CE) (r:List Int),∀u∈rowV ks r,u.oneCell'=true:=by
  intro ks
  induction ks with
  | nil=>intro r u hu; simp[rowV] at hu
  | cons k ks ih=>
    intro r u hu
    cases r with
    | nil=>simp[rowV] at hu
    | cons x xs=>
      simp only[rowV,List.mem_cons] at hu
      rcases hu with rfl | hu
      ·cases k<;>rfl
      ·exact ih xs u hu
 intro L u hu
 simp only[flat,List.mem_flatMap] at hu
 obtain⟨r,_,hu⟩:=hu
 exact row ks r u hu
structure SlOk (ρ:Env) (base:Nat) (w:World) (s:SV) (r:RowOb):Prop where
 n:s.n=(r.l.R ρ).length
 rows:RowsIn r.ks (r.l.R ρ)
 pos:0<r.ks.length
 lt:∀k,s.blk r.own=some k→k<w.heap.size
 own:r.own=true→w.ownsRow base r.ty r.ks.length s.v s.n (flat r.ks (r.l.R ρ))
 rd:RdRow w r.ks.length s (flat r.ks (r.l.R ρ))
def zY (agg:Bool) (vs:List Value):Value:=if agg then .agg vs.toArray else vs.headD undef
def entV (ks:List CE) (nk:Nat) (ka va:Bool) (i:Nat) (r:List Int):MapEntry:=⟨zY ka ((rowV ks r).take nk),zY va ((rowV ks r).drop nk),i⟩
def acG (ks:List CE) (nk:Nat) (ka va:Bool):Nat→List (List Int)→List MapEntry
 | _,[]=>[]
 | i,r::L=>entV ks nk ka va i r::acG ks nk ka va (i+1) L
def idxs (L:List (List Int)):List Nat:=L.map fun r=>(r.getD 0 0).toNat
def obOf (ρ:Env) (s:SV) (r:RowOb) (o:Obj):Prop:=
 match r.kd with
 | .sl=>False
 | .ev=>False
 | .map nk ka va=>o=.map (acG r.ks nk ka va 0 (r.l.R ρ)).toArray (r.l.R ρ).length
 | .it _ n=>r.ks=[some .i64]∧o=.mapIter (some s.n) (n.I ρ).toNat (idxs (r.l.R ρ)).toArray (n.I ρ).toNat∧(r.l.R ρ).Nodup∧∀x∈r.l.R ρ,0≤x.getD 0 0∧x.getD 0 0<n.I ρ
structure HdOk (ρ:Env) (base:Nat) (w:World) (s:SV) (r:RowOb):Prop where
 own:r.own=true
 rows:RowsIn r.ks (r.l.R ρ)
 c:s.c=1
 at':∃g o,s.a=some ⟨g,0,none⟩∧base≤g∧w.heap[g]? =some o∧obOf ρ s r o
structure EiOk (z:List (Nat×Obj)) (row:List Int) (x:SV):Prop where
 n:(x.n:Int)=row.getD 2 0
 most:x.n≤5
 rest:(row.drop 3).drop x.n=List.replicate (5-x.n) 0
 rd:∀w:World,(∀p∈z,w.heap[p.1]? =some p.2)→RdRow w 1 x (lu row)
 blk:∀k,x.blk false=some k→∃o,(k,o)∈z
theorem EiOk.mono {z z':List (Nat×Obj)} {row:List Int} {x:SV} (h:EiOk z row x) (hz:∀p∈z,p∈z'):EiOk z' row x:=
 ⟨h.n,h.most,h.rest,fun w hw=>h.rd w (fun p hp=>hw p (hz p hp)),fun k hk=>let⟨o,ho⟩:=h.blk k hk; ⟨o,hz _ ho⟩⟩
structure EvOk (ρ:Env) (base:Nat) (w:World) (s:SV) (r:RowOb):Prop where
 ks:r.ks=evKs
 n:s.n=(r.l.R ρ).length
 rows:RowsIn r.ks (r.l.R ρ)
 lt:∀k,s.blk r.own=some k→k<w.heap.size
 zb:r.own=true→∀p∈s.z,base≤p.1
 at':∃ins:List SV,ins.length=(r.l.R ρ).length∧(r.own=true→w.ownsRow base r.ty 3 s.v s.n (bW (r.l.R ρ) ins))∧RdRow w 3 s (bW (r.l.R ρ) ins)∧∀(i:Nat) row x,(r.l.R ρ)[i]? =some row→ins[i]? =some x→EiOk s.z row x
def RowOk (ρ:Env) (base:Nat) (w:World) (s:SV) (r:RowOb):Prop:=(r.kd=.sl→SlOk ρ base w s r)∧(r.kd.isHd=true→HdOk ρ base w s r)∧(r.kd=.ev→EvOk ρ base w s r)
theorem SlOk.row {ρ:Env} {base:Nat} {w:World} {s:SV} {r:RowOb} (h:SlOk ρ base w s r) (hk:r.kd=.sl):RowOk ρ base w s r:=⟨fun _=>h,fun hn=>(by rw[hk] at hn; cases hn),fun hn=>(by rw[hk] at hn; cases hn)⟩
theorem HdOk.row {ρ:Env} {base:Nat} {w:World} {s:SV} {r:RowOb} (h:HdOk ρ base w s r) (hk:r.kd.isHd=true):RowOk ρ base w s r:=⟨fun e=>(by rw[e] at hk; cases hk),fun _=>h,fun e=>(by rw[e] at hk; cases hk)⟩
theorem EvOk.row {ρ:Env} {base:Nat} {w:World} {s:SV} {r:RowOb} (h:EvOk ρ base w s r) (hk:r.kd=.ev):RowOk ρ base w s r:=⟨fun e=>(by rw[e] at hk; cases hk),fun e=>(by rw[hk] at e; cases e),fun _=>h⟩
theorem RowOk.cases {ρ:Env} {base:Nat} {w:World} {s:SV} {r:RowOb} (h:RowOk ρ base w s r):(r.kd=.sl∧SlOk ρ base w s r)∨(r.kd.isHd=true∧HdOk ρ base w s r)∨(r.kd=.ev∧EvOk ρ base w s r):=by
 cases hk:r.kd with
 | sl=>exact .inl ⟨rfl,h.1 hk⟩
 | map a b c=>exact .inr (.inl ⟨rfl,h.2.1 (by rw[hk]; rfl)⟩)
 | it a b=>exact .inr (.inl ⟨rfl,h.2.1 (by rw[hk]; rfl)⟩)
 | ev=>exact .inr (.inr ⟨rfl,h.2.2 hk⟩)
theorem RowOk.rows {ρ:Env} {base:Nat} {w:World} {s:SV} {r:RowOb} (h:RowOk ρ base w s r):RowsIn r.ks (r.l.R ρ):=by
 rcases h.cases with⟨_,h⟩ | ⟨_,h⟩ | ⟨_,h⟩<;>exact h.rows
theorem HdOk.blk {ρ:Env} {base:Nat} {w:World} {s:SV} {r:RowOb} (h:HdOk ρ base w s r) {o:Bool} {k:Nat} (hk:s.blk o=some k):∃ob,s.a=some ⟨k,0,none⟩∧base≤k∧w.heap[k]? =some ob∧obOf ρ s r ob∧k<w.heap.size:=by
 obtain⟨g,ob,h1,h2,h3,h4⟩:=h.at'
 have e:=ap hk
 simp only[SV.v,h1,Value.ownBlock,Option.some.injEq] at e
 subst e
 exact⟨ob,h1,h2,h3,h4,(Array.getElem?_eq_some_iff.1 h3).1⟩
theorem HdOk.blkAt {ρ:Env} {base:Nat} {w:World} {s:SV} {r:RowOb} (h:HdOk ρ base w s r) {g:Nat} (hg:s.a=some ⟨g,0,none⟩) (o:Bool):s.blk o=some g:=by
 unfold SV.blk
 rw[if_pos (by rw[h.c]; cases o<;>rfl)]
 simp[SV.v,hg,Value.ownBlock]
theorem jP {w:World} {base ty esz:Nat} {s:SV} {xs:List Value} (h:w.ownsRow base ty esz s.v s.n xs):RdRow w esz s xs:=by
 obtain⟨hl,h⟩:=h
 rcases h with⟨hv,hn⟩ | ⟨g,cap,cur,hv,hb,hg,hn,hm,hs,ht⟩
 ·obtain⟨a,n,c,z⟩:=s
  simp only[SV.v,Value.slice.injEq] at hv
  obtain⟨rfl,rfl,rfl⟩:=hv
  exact⟨hl,Nat.le_refl _,by simp[maxLen],fun _=>⟨rfl,rfl⟩,fun a ha=>by cases ha⟩
 ·obtain⟨a,n,c,z⟩:=s
  simp only[SV.v,Value.slice.injEq] at hv
  obtain⟨rfl,-,rfl⟩:=hv
  refine⟨hl,hn,hm,fun h=>(by cases h),fun a ha i u hu=> ?_⟩
  cases ha
  have:(⟨g,0,none⟩:Addr).add i=⟨g,i,none⟩:=by unfold Addr.add; split<;>simp_all
  rw[this,cell_of_row w g i cur ty (0,0) hg,←Array.getElem?_toList]
  rw[←ht] at hu
  simp only at hl hu
  rw[List.getElem?_take] at hu
  split at hu
  ·exact hu
  ·cases hu
theorem kS {w:World} {base ty esz:Nat} {s:SV} {n:Nat} {xs:List Value} (h:w.ownsRow base ty esz s.v n xs):∀k,s.v.ownBlock=some k→k<w.heap.size∧base≤k:=by
 intro k hk
 rcases h.2 with⟨hv,hn⟩ | ⟨g,cap,cur,hv,hb,hg,_⟩
 ·rw[hv] at hk; cases hk
 ·rw[hv] at hk
  cases hk
  refine⟨?_,hb⟩
  rcases Nat.lt_or_ge g w.heap.size with h1 | h1
  ·exact h1
  ·rw[Array.getElem?_eq_none h1] at hg; cases hg
theorem RowOk.lt {ρ:Env} {base:Nat} {w:World} {s:SV} {r:RowOb} (h:RowOk ρ base w s r):∀k,s.blk r.own=some k→k<w.heap.size:=by
 intro k hk
 rcases h.cases with⟨_,h⟩ | ⟨_,h⟩ | ⟨_,h⟩
 ·exact h.lt k hk
 ·obtain⟨_,_,_,_,_,h5⟩:=h.blk hk
  exact h5
 ·exact h.lt k hk
theorem SlOk.mk_own {ρ:Env} {base:Nat} {w:World} {s:SV} {r:RowOb} (h1:s.n=(r.l.R ρ).length) (h2:RowsIn r.ks (r.l.R ρ)) (h3:0<r.ks.length) (h4:w.ownsRow base r.ty r.ks.length s.v s.n (flat r.ks (r.l.R ρ))):SlOk ρ base w s r:=
 ⟨h1,h2,h3,fun k hk=>(kS h4 k (ap hk)).1,fun _=>h4,jP h4⟩
theorem RowOk.owned {ρ:Env} {base:Nat} {w:World} {s:SV} {r:RowOb} (h:RowOk ρ base w s r) (ho:r.own=true):∀k,s.v.ownBlock=some k→k<w.heap.size∧base≤k:=by
 intro k hk
 rcases h.cases with⟨_,h⟩ | ⟨_,h⟩ | ⟨_,h⟩
 ·exact kS (h.own ho) k hk
 ·obtain⟨g,ob,h1,h2,h3,h4⟩:=h.at'
  simp only[SV.v,h1,Value.ownBlock,Option.some.injEq] at hk
  subst hk
  exact⟨(Array.getElem?_eq_some_iff.1 h3).1,h2⟩
 ·obtain⟨ins,_,h2,_⟩:=h.at'
  exact kS (h2 ho) k hk
theorem RowOk.mk_own {ρ:Env} {base:Nat} {w:World} {s:SV} {r:RowOb} (hk:r.kd=.sl) (h1:s.n=(r.l.R ρ).length) (h2:RowsIn r.ks (r.l.R ρ)) (h3:0<r.ks.length) (h4:w.ownsRow base r.ty r.ks.length s.v s.n (flat r.ks (r.l.R ρ))):RowOk ρ base w s r:=(SlOk.mk_own h1 h2 h3 h4).row hk
def NewZ (w w':World) (svs:List SV) (u:SV):Prop:=∀p∈u.z,w'.heap[p.1]? =some p.2∧isCl p.2=true∧w.heap.size≤p.1∧∀u'∈svs,u'.v.ownBlock≠some p.1
theorem NewZ.nil {w w':World} {svs:List SV} {u:SV} (h:u.z=[]):NewZ w w' svs u:=fun p hp=>by rw[h] at hp; cases hp
structure RetOk (res:List Sh) (tup:Bool) (w w':World) (X:List Dt) (v:Value):Prop where
 ext:Ext w w'
 rng:dY (res.flatMap (·.cks)) X
 svs:∃svs:List SV,svs.length=((res.flatMap (·.cks)).filter CK.isSl).length∧
     (∀(ρ:Env) v0 nid (j:J),eqs ρ X v0 0 (res.flatMap (·.cks))→(∀(i:Nat) u,svs[i]? =some u→j.s (nid+i)=some u)→(eS res tup v0 nid).den ρ j=some v)∧
     (∀(ρ:Env) v0,eqs ρ X v0 0 (res.flatMap (·.cks))→∀(i:Nat) u r,svs[i]? =some u→(aN v0 0 (res.flatMap (·.cks)))[i]? =some r→RowOk ρ w.heap.size w' u r)∧
     (∀(i i':Nat) u u' k,svs[i]? =some u→svs[i']? =some u'→u.v.ownBlock=some k→u'.v.ownBlock=some k→i=i')∧∀u∈svs,NewZ w w' svs u
def InOk (P:Program) (sp:Spec) (s:Sm) (ks:List CE) (ty:Nat):Prop:=
 ∀L,sp.pre s.key [.l L]→∃L',sp.F s.key [.l L]=[.l L']∧RowsIn ks L'∧∀base sv w,OwnRow w base ty ks sv L→
   (callFunc s.f #[sv.v]).run P w=.ok (.enter s.f #[sv.v]) w∧Calls P s.f #[sv.v] w fun e w'=>e=.returned (.tuple #[])∧OwnRow w' base ty ks sv L'∧w.grownBy w' sv.v.ownBlock
structure SmOk (P:Program) (sp:Spec) (s:Sm):Prop where
 calls:s.inp=none→∀xs vals w,iG w s.args xs vals→sp.pre s.key xs→
   (∃v w',(callFunc s.f vals.toArray).run P w=.ok (.value v) w'∧RetOk s.res s.tup w w' (sp.F s.key xs) v)∨((callFunc s.f vals.toArray).run P w=.ok (.enter s.f vals.toArray) w∧Calls P s.f vals.toArray w fun e w'=>∃v,e=.returned v∧RetOk s.res s.tup w w' (sp.F s.key xs) v)
 inpl:∀ks ty,s.inp=some (ks,ty)→InOk P sp s ks ty
 rng:∀xs,xD s.args xs→sp.pre s.key xs→∀(ρ:Env) v0,eqs ρ (sp.F s.key xs) v0 0 s.ks→(∀(n:Nat) k,s.ks[n]? =some (.int k)→inK k (ρ.i (v0+n))=true)∧(∀(n:Nat) ks ty,s.ks[n]? =some (.sl ks ty)→RowsIn ks (ρ.l (v0+n)))
def Zin (j:J) (s:SV):Prop:=∀p∈s.z,j.g.z p.1=some p.2∧isCl p.2=true
theorem Zin.nil {j:J} {s:SV} (h:s.z=[]):Zin j s:=fun p hp=>by rw[h] at hp; cases hp
def RrOk (ρ:Env) (base:Nat) (j:J) (w:World) (rw:Nat→Option RowOb) (rr:List Nat):Prop:=
 ∀id∈rr,∀r,rw id=some r→∃s,j.s id=some s∧RowOk ρ base w s r∧Zin j s∧∀p∈s.z,w.heap[p.1]? =some p.2
theorem EiOk.told {z:List (Nat×Obj)} {row:List Int} {x:SV} {w:World} (h:EiOk z row x) (hz:∀p∈z,w.heap[p.1]? =some p.2∧isCl p.2=true):EvIn w row x:=
 ⟨h.n,h.most,h.rest,h.rd w (fun p hp=>(hz p hp).1),fun k hk=>let⟨o,ho⟩:=h.blk k hk; ⟨o,hz _ ho⟩⟩
theorem EvOk.told {ρ:Env} {base:Nat} {j:J} {w:World} {s:SV} {r:RowOb} (h:EvOk ρ base w s r) (hz:Zin j s∧∀p∈s.z,w.heap[p.1]? =some p.2):∃ins:List SV,ins.length=(r.l.R ρ).length∧RdRow w 3 s (bW (r.l.R ρ) ins)∧∀(i:Nat) row x,(r.l.R ρ)[i]? =some row→ins[i]? =some x→EvIn w row x:=by
 obtain⟨ins,h1,_,h2,h3⟩:=h.at'
 exact⟨ins,h1,h2,fun i row x hr hx=>(h3 i row x hr hx).told (fun p hp=>⟨hz.2 p hp,(hz.1 p hp).2⟩)⟩
theorem RdRow.nil {w:World} {n:Nat}:RdRow w n ⟨none,0,0,[]⟩ []:=⟨by simp,Nat.le_refl _,by simp[maxLen],fun _=>⟨rfl,rfl⟩,fun a ha=>(by cases ha)⟩
theorem TRow.nil {w:World} {ks:List CE}:TRow w ks ⟨none,0,0,[]⟩ []:=by
 unfold TRow
 split
 ·exact⟨[],rfl,.nil,fun i row x h=>by simp at h⟩
 ·exact .nil
theorem RrOk.sl {ρ:Env} {base:Nat} {j:J} {w:World} {vw:Vw} {rr:List Nat} (h:RrOk ρ base j w vw.rw rr) (id:Nat) (hid:id∈rr) (r:RowOb) (hr:vw.sw id=some r):∃s,j.s id=some s∧SlOk ρ base w s r:=by
 obtain⟨h1,h2⟩:=Vw.sw_some hr
 obtain⟨s,h3,h4,_⟩:=h id hid r h1
 exact⟨s,h3,h4.1 h2⟩
def dK (cs:List C) (o:Nat):Bool:=(cs.getD o .undef).solid
def FbOk (ρ:Env) (j:J) (w:World) (fb:Nat→Option (List C)):Prop:=
 ∀b cs,fb b=some cs→∃k vs,j.f b=some k∧k<w.heap.size∧denL ρ j cs=some vs∧∀o v,vs[o]? =some v→dK cs o=true→w.cell? ⟨k,o,none⟩=some v
def J.putS (j:J) (id:Nat) (s:SV):J:={j with s:=fun b=>if b=id then some s else j.s b}
def Gh.setz (g:Gh) (l:Nat) (x:Option Obj):Gh:=⟨g.y,fun k=>if k=l then x else g.z k⟩
def J.setz (j:J) (l:Nat) (x:Option Obj):J:={j with g:=j.g.setz l x}
def J.addz (j:J):List (Nat×Obj)→J
 | []=>j
 | p::_=>j.setz p.1 (some p.2)
def Gh.setzs (g:Gh) (l:List (Nat×Obj)):Gh:=⟨g.y,fun k=>match l.find? (fun p=>Nat.beq p.1 k) with | some p=>some p.2 | none=>g.z k⟩
def J.addzs (j:J):List (Nat×Obj)→J
 | []=>j
 | l=>{j with g:=j.g.setzs l}
theorem abW (j:J) (l:List (Nat×Obj)):(j.addzs l).s=j.s:=by cases l<;>rfl
theorem xG (j:J) (l:List (Nat×Obj)):(j.addzs l).s=j.s∧(j.addzs l).b=j.b∧(j.addzs l).f=j.f∧(j.addzs l).g.y=j.g.y:=by cases l<;>exact⟨rfl,rfl,rfl,rfl⟩
theorem qf (j:J) (l:List (Nat×Obj)) (k:Nat):(j.addzs l).g.z k=match l.find? (fun p=>Nat.beq p.1 k) with | some p=>some p.2 | none=>j.g.z k:=by cases l<;>rfl
theorem kz {j:J} {l:List (Nat×Obj)} {k:Nat} {o:Obj} (h:(j.addzs l).g.z k=some o):(k,o)∈l∨((∀p∈l,p.1≠k)∧j.g.z k=some o):=by
 rw[qf] at h
 split at h
 ·rename_i p hp
  cases h
  have h1:=List.mem_of_find?_eq_some hp
  have h2:p.1=k:=Nat.eq_of_beq_eq_true (by simpa using List.find?_some hp)
  rw[←h2]
  exact .inl h1
 ·rename_i hn
  refine .inr ⟨fun p hp e=> ?_,h⟩
  have:=List.find?_eq_none.1 hn p hp
  rw[e] at this
  simp at this
theorem fD {j:J} {l:List (Nat×Obj)} {k:Nat} (h:∀p∈l,p.1≠k):(j.addzs l).g.z k=j.g.z k:=by
 rw[qf]
 split
 ·rename_i p hp
  exact absurd (Nat.eq_of_beq_eq_true (n:=p.1) (m:=k) (by simpa using List.find?_some hp)) (h p (List.mem_of_find?_eq_some hp))
 ·rfl
theorem xF {j:J} {l:List (Nat×Obj)} (hf:∀p∈l,∀q∈l,p.1=q.1→p.2=q.2) {p:Nat×Obj} (hp:p∈l):(j.addzs l).g.z p.1=some p.2:=by
 rw[qf]
 split
 ·rename_i q hq
  rw[hf q (List.mem_of_find?_eq_some hq) p hp (Nat.eq_of_beq_eq_true (n:=q.1) (m:=p.1) (by simpa using List.find?_some hq))]
 ·rename_i hn
  have:=List.find?_eq_none.1 hn p hp
  simp at this
def J.putL (j:J) (nid:Nat) (l:List SV):J:={j with s:=fun b=>if nid≤b then(match l[b-nid]? with | some u=>some u | none=>j.s b) else j.s b}
def Does (ρ:Env) (base nid:Nat) (eff:Eff) (j:J) (w:World) (j':J) (w':World):Prop:=
 match eff.al with
 | some (cs,ty)=>∃vs,denL ρ j cs=some vs∧w'=w.alloc (.cells vs.toArray ty)∧j'={j with b:=fun b=>if b=nid then some w.heap.size else j.b b}
 | none=>match eff.re with
   | .none=>j'=j∧∃w1,Ext w w1∧lB ρ j eff.wr w1 w'
   | .set id r=>j'=j∧∃s,j.s id=some s∧w.grownBy w' s.v.ownBlock∧RowOk ρ base w' s r
   | .mk rs=>Ext w w'∧∃svs:List SV,svs.length=rs.length∧(∀(i:Nat) u r,svs[i]? =some u→rs[i]? =some r→RowOk ρ w.heap.size w' u r∧r.own=true)∧
    (∀(i i':Nat) u u' k,svs[i]? =some u→svs[i']? =some u'→u.v.ownBlock=some k→u'.v.ownBlock=some k→i=i')∧(∀u∈svs,NewZ w w' svs u)∧j'=(j.putL nid svs).addzs (svs.flatMap (·.z))
   | .app old r=>∃s s',j.s old=some s∧w.grownBy w' s.v.ownBlock∧RowOk ρ base w' s' r∧(s'.v.ownBlock=s.v.ownBlock∨s'.v.ownBlock=some w.heap.size)∧Zin j s'∧j'=j.putS nid s'
   | .view old q r=>w'=w∧∃s s',j.s old=some s∧RowOk ρ base w s q∧RowOk ρ base w s' r∧(∀k,s'.blk false=some k→s.blk false=some k)∧Zin j s'∧j'=j.putS nid s'
   | .peek r=>w'=w∧∃s',RowOk ρ base w s' r∧(∀k,s'.blk false=some k→∃o,j.g.z k=some o∧isCl o=true)∧s'.z=[]∧j'=j.putS nid s'
   | .frz old q r=>Ext w w'∧∃s s',j.s old=some s∧RowOk ρ base w s q∧RowOk ρ base w' s' r∧(∀k,s'.v.ownBlock=some k→w.heap.size≤k)∧s'.z.length≤1∧(∀p∈s'.z,w.heap[p.1]? =some p.2∧isCl p.2=true∧s.v.ownBlock=some p.1)∧j'=(j.putS nid s').addz s'.z
def OpOk (P:Program) (ρ:Env) (base:Nat) (vw:Vw) (o:Oper) (eff:Eff):Prop:=
 ∀(j:J) (a:Act) (w:World),base≤w.heap.size→(∀x∈o.op.operands.toList,∀v,vw.ev x=some v→v.den ρ j=some (a.eval x))→RdOk ρ j w vw.ld eff.rd→WrOk j w eff.wr→RrOk ρ base j w vw.rw eff.rr→FbOk ρ j w vw.fb→
  ∀(K:Act→World→Prop) (Q:Exit→Act→World→Prop),(∀v j' w',eff.val.den ρ j'=some v→Does ρ base vw.nid eff j w j' w'→K (a.put o.dst v) w')→o.wp P a w K Q
theorem bs {P:Program} {o:Oper} {a:Act} {w w':World} {v:Value} {K:Act→World→Prop} {Q:Exit→Act→World→Prop} (h:(execOp a.eval o).run P w=.ok (.value v) w') (hk:K (a.put o.dst v) w'):o.wp P a w K Q:=by
 unfold Oper.wp; rw[h]; exact hk
theorem tN {P:Program} {o:Oper} {a:Act} {w w':World} {K:Act→World→Prop} {Q:Exit→Act→World→Prop} (h:(execOp a.eval o).run P w=.ok .skip w') (hk:K (a.put o.dst undef) w'):o.wp P a w K Q:=by
 unfold Oper.wp; rw[h]; exact hk
section
variable {P:Program} {ρ:Env} {base:Nat} {vw:Vw} {ld:Nat→Nat→Option C} {o:Oper}
theorem OpOk.pure {v:V} {rd:List (Nat×Nat)} {rr:List Nat} (h:∀(j:J) (a:Act) (w:World),base≤w.heap.size→(∀x∈o.op.operands.toList,∀v,vw.ev x=some v→v.den ρ j=some (a.eval x))→RdOk ρ j w vw.ld rd→RrOk ρ base j w vw.rw rr→FbOk ρ j w vw.fb→
  ∃u,v.den ρ j=some u∧(execOp a.eval o).run P w=.ok (.value u) w):OpOk P ρ base vw o {val:=v,rd:=rd,rr:=rr}:=by
 intro j a w hb hev hrd _ hrr hfb K Q hK
 obtain⟨u,hu,hr⟩:=h j a w hb hev hrd hrr hfb
 exact bs hr (hK u j w hu ⟨rfl,w,Ext.refl w,rfl⟩)
theorem bI {j:J} {b k:Nat} (hj:j.b b=some k):∀(n o:Nat) (cs:List C),dX ld b o n=some cs→∀(w:World),RdOk ρ j w ld (bG b o n)→∀(a:Addr) (i:Nat) (acc:Array Value),(∀m,a.add (i+m)=⟨k,o+m,none⟩)→
  ∃vs,denL ρ j cs=some vs∧(loadCellsFrom a i n acc).run P w=.ok (acc++vs.toArray) w
 | 0,o,cs,h,w,hrd,a,i,acc,ha=>by
   cases h
   exact⟨[],rfl,by simp[loadCellsFrom]⟩
 | n+1,o,cs,h,w,hrd,a,i,acc,ha=>by
   simp only[dX] at h
   cases hc:ld b o with
   | none=>rw[hc] at h; cases h
   | some c=>
     cases hl:dX ld b (o+1) n with
     | none=>rw[hc,hl] at h; cases h
     | some l=>
       rw[hc,hl] at h; cases h
       obtain⟨k',v,hk',hv,hcell⟩:=hrd (b,o) (by simp[bG]) c hc
       simp only at hk' hcell
       rw[hj] at hk'; cases hk'
       obtain⟨vs,h1,h2⟩:=bI hj n (o+1) l hl w (fun p hp=>hrd p (by simp[bG]; exact .inr hp)) a (i+1) (acc.push v) (fun m=>by rw[Nat.add_assoc,Nat.add_comm 1 m,←Nat.add_assoc,Nat.add_assoc,ha (m+1)]; congr 1; omega)
       refine⟨v::vs,by simp[denL,hv,h1],?_⟩
       have ha0:=ha 0
       simp only[Nat.add_zero] at ha0
       simp only[loadCellsFrom,ha0,Sem.run_bind,load,Sem.run,hcell,Result.andThen_ok,h2]
       simp
theorem wk {cx:Cx} (hT:∀t i,(t,i)∈cx.ty→TIok P t i) {ft:Nat} {cs:List C} {off:Nat} {v:V} (h:sV cx ft cs off=some v) {j:J} {vs:List Value} (hvs:denL ρ j cs=some vs) (w:World):
  ∃u,v.den ρ j=some u∧(part ft vs.toArray off).run P w=.ok u w:=by
 unfold sV at h
 split at h
 ·rename_i i hi
  have ht:=hT _ _ (ab hi)
  split at h
  ·rename_i hagg
   split at h
   ·rename_i hlen
    cases h
    have h1:=gu (em hvs off) i.size
    refine⟨.agg ((vs.drop off).take i.size).toArray,by simp only[V.den,h1,Option.map_some],?_⟩
    have h2:vs.toArray.extract off (off+i.size)=((vs.drop off).take i.size).toArray:=by
     simp[List.extract_eq_take_drop]
    simp only[part,Sem.run_bind,ht.agg,hagg,Result.andThen_ok,if_true,ht.size,h2,Sem.run_pure]
   ·cases h
  ·rename_i hagg
   rw[Option.map_eq_some_iff] at h
   obtain⟨c,hc,rfl⟩:=h
   obtain⟨u,hu,hd⟩:=bz hvs off c hc
   refine⟨u,hd,?_⟩
   have h3:vs.toArray[off]? =some u:=by simpa using hu
   simp only[part,Sem.run_bind,ht.agg,hagg,Result.andThen_ok,h3]
   simp
 ·cases h
end
end Go.Proofs.Ytghiofgomcihcaa
