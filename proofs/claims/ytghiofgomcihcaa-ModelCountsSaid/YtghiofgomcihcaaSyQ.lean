import Derived.Test.YtghiofgomcihcaaSyP
import Derived.ChangeSlices
import Derived.ChangeSame
import Derived.ChangeArms
import Derived.Deep.Slices
set_option linter.unusedVariables false
set_option linter.unusedSimpArgs false
namespace Go.Proofs.Ytghiofgomcihcaa
open Go.RowKit Go.ChangeShapes Go.WideShapes
structure Rw (P:Program) (t:TypeId) (ks:List CE):Prop where
 cells:P.cellsOf t=ks.length
 opn:∀{H:Type} {enc:TypeId×Value→H} {W:World} {sp:Nat→Bool} {hd:Bool} {fuel:Nat} {cs:List Value} {d:DataW H×List MemPlace},
  DataW.trod enc P W 0 sp hd fuel t cs=some d→∃r,cs=rowV ks r∧ah ks r=true
theorem nF {k:IntKind} {x:Int} (h:(Lit.int k x).wf=true):inK k x=true:=by
 simp only[Lit.wf,Bool.and_eq_true,decide_eq_true_eq] at h
 rw[aC]; exact h
theorem Rw.int {P:Program} {t:TypeId} (k:IntKind) (ht:P.underlying t=some (.int k)) (hc:P.cellsOf t=1):Rw P t [some k] where
 cells:=hc
 opn:=fun h=>by
  obtain⟨x,h1,_,h2⟩:=DataW.trod_int ht h
  exact⟨[x],h1,by simp[ah,inCE,nF h2]⟩
theorem Rw.bool {P:Program} {t:TypeId} (ht:P.underlying t=some .bool) (hc:P.cellsOf t=1):Rw P t [none] where
 cells:=hc
 opn:=fun h=>by
  obtain⟨x,h1,_⟩:=DataW.trod_bool ht h
  exact⟨[b2i x],by cases x<;>exact h1,by cases x<;>rfl⟩
theorem lu:∀{ks ks':List CE} {r r':List Int},ah ks r=true→rowV (ks++ks') (r++r')=rowV ks r++rowV ks' r'
 | [],ks',[],r',_=>rfl
 | k::ks,ks',x::r,r',h=>by
   simp only[ah,Bool.and_eq_true] at h
   simp only[List.cons_append,rowV,lu h.2]
theorem iU:∀{ks ks':List CE} {r r':List Int},ah ks r=true→ah ks' r'=true→ah (ks++ks') (r++r')=true
 | [],ks',[],r',_,h=>h
 | k::ks,ks',x::r,r',h,h'=>by
   simp only[ah,Bool.and_eq_true] at h
   simp only[List.cons_append,ah,h.1,iU h.2 h',Bool.and_self]
structure RwSeq (P:Program) (off:Nat) (fs:List Field) (ks:List CE):Prop where
 opn:∀{H:Type} {enc:TypeId×Value→H} {W:World} {sp:Nat→Bool} {hd:Bool} {n:Nat} {cs:List Value},
  (∀f∈fs,∃y,DataW.trod enc P W 0 sp hd n f.type ((cs.drop f.offset).take (P.cellsOf f.type))=some y)→cs.length=off+ks.length→∃r,cs.drop off=rowV ks r∧ah ks r=true
theorem RwSeq.nil (P:Program) (off:Nat):RwSeq P off [] []:=⟨fun _ hl=>⟨[],List.drop_eq_nil_of_le (by simp at hl; omega),rfl⟩⟩
theorem RwSeq.cons {P:Program} {off:Nat} {f:Field} {fs:List Field} {ks ks':List CE} (r:Rw P f.type ks) (ho:f.offset=off) (s:RwSeq P (off+ks.length) fs ks'):RwSeq P off (f::fs) (ks++ks'):=⟨fun {H} {enc} {W} {sp} {hd} {n} {cs} h hl=>by
  obtain⟨y,hy⟩:=h f (by simp)
  rw[r.cells,ho] at hy
  obtain⟨a,ha,ha'⟩:=r.opn hy
  obtain⟨b,hb,hb'⟩:=s.opn (fun g hg=>h g (by simp[hg])) (by simp at hl; omega)
  refine⟨a++b,?_,iU ha' hb'⟩
  rw[lu ha',←ha,←hb,←List.drop_drop,List.take_append_drop]⟩
theorem Rw.struct {P:Program} {t:TypeId} {fs:Array Field} {ks:List CE} (s:RwSeq P 0 fs.toList ks) (ht:P.underlying t=some (.struct fs)) (hc:P.cellsOf t=ks.length):Rw P t ks where
 cells:=hc
 opn:=fun {H} {enc} {W} {sp} {hd} {fuel} {cs} {d} h=>by
  obtain⟨xs,n,_,_,hl,hlen,hf⟩:=DataW.trod_struct ht h
  have:=s.opn (enc:=enc) (W:=W) (sp:=sp) (hd:=hd) (n:=n) (cs:=cs) (fun f hm=>by
   obtain⟨i,hi,he⟩:=List.getElem_of_mem hm
   have hi':i<fs.size:=by simpa using hi
   have h1:=hf i f (by rw[Array.getElem?_eq_getElem hi']; simpa using congrArg some he)
   rw[List.getElem?_eq_getElem (by omega)] at h1
   exact⟨_,h1⟩) (by omega)
  simpa using this
theorem qt {α:Type} {n:Nat} {Q:Nat→α→Prop} (h:∀i,i<n→∃x,Q i x):∃l:List α,l.length=n∧∀i x,l[i]? =some x→Q i x:=by
 induction n with
 | zero=>exact⟨[],rfl,by simp⟩
 | succ n ih=>
   obtain⟨l,hl,hq⟩:=ih (fun i hi=>h i (by omega))
   obtain⟨x,hx⟩:=h n (by omega)
   refine⟨l++[x],by simp[hl],fun i y hy=> ?_⟩
   rw[List.getElem?_append] at hy
   split at hy
   ·exact hq i y hy
   ·have:i=n:=by
     rcases Nat.lt_or_ge (i-l.length) 1 with h1 | h1
     ·omega
     ·rw[List.getElem?_eq_none (by simpa using h1)] at hy; cases hy
    subst this
    have:i-l.length=0:=by omega
    rw[this] at hy
    simp at hy
    subst hy
    exact hx
theorem qP {W:World} {a:Addr} {n:Nat} {cs:List Value} (h:W.cells? 0 a n=some cs) (hn:0<n):a.block<W.heap.size∧a.spot=none:=by
 obtain⟨_,hlen,hat⟩:=World.cells?_some h
 have h0:=hat 0 hn
 rw[List.getElem?_eq_getElem (by omega)] at h0
 obtain⟨b,off,spot⟩:=a
 have hs:spot=none:=by
  cases spot with
  | none=>rfl
  | some s=>
    exfalso
    simp[Addr.add,World.cell?] at h0
    split at h0<;>simp at h0
 subst hs
 refine⟨?_,rfl⟩
 rcases Nat.lt_or_ge b W.heap.size with h1 | h1
 ·exact h1
 ·simp[Addr.add,World.cell?,Array.getElem?_eq_none h1] at h0
theorem mI {P:Program} {t e:TypeId} {ks:List CE} (r:Rw P e ks) (hpos:0<ks.length) (ht:P.underlying t=some (.slice e)) {H:Type} {enc:TypeId×Value→H} {W:World} {hd:Bool} {v:Value} {d:DataW H} {p:List MemPlace} {rc:Reach} {b0:Nat}
  (hv:Value.okWide P W rc b0 t v) (h:DataW.Trod enc P W 0 (fun _=>true) hd t v d p):∃L s,v=s.v∧s.n=L.length∧RdRow W ks.length s (flat ks L)∧RowsIn ks L∧∀k,s.blk false=some k→k<W.heap.size:=by
 obtain⟨fuel,hf⟩:=h
 obtain⟨a0,len0,cap0,rfl⟩:=okWide_slice ht hv
 have hcs:(Value.slice a0 len0 cap0).cells.toList=[.slice a0 len0 cap0]:=rfl
 rw[hcs] at hf
 rcases Go.Deep.open_slice ht hf with⟨h1,_⟩ | ⟨a,len,cap,m,n,D,Pl,h1,_,hl,hm,hmm,_,hel⟩
 ·simp only[List.cons.injEq,Value.slice.injEq,and_true] at h1
  obtain⟨rfl,rfl,rfl⟩:=h1
  exact⟨[],⟨none,0,0,[]⟩,rfl,rfl,⟨by simp[flat],Nat.le_refl _,by simp[maxLen],fun _=>⟨rfl,rfl⟩,fun a ha=>(by cases ha)⟩,⟨fun r hr=>(by cases hr),by simp⟩,fun k hk=>by have:=aq hk; cases this⟩
 ·simp only[List.cons.injEq,Value.slice.injEq,and_true] at h1
  obtain⟨rfl,rfl,rfl⟩:=h1
  have hmc:m=cap0:=by rw[hmm]; rfl
  subst hmc
  rw[r.cells] at hel
  have key:∀i,i<len0→∃x,W.cells? 0 (a.add (i*ks.length)) ks.length=some (rowV ks x)∧ah ks x=true:=fun i hi=>by
   obtain⟨cs',h1,h2⟩:=hel i (by omega)
   obtain⟨x,hx,hx'⟩:=r.opn h2
   exact⟨x,by rw[←hx]; exact h1,hx'⟩
  obtain⟨L,hL,hq⟩:=qt key
  have hrow:∀x∈L,ah ks x=true:=fun x hx=>by
   obtain⟨i,hi,he⟩:=List.getElem_of_mem hx
   exact(hq i x (by rw[List.getElem?_eq_getElem hi,he])).2
  refine⟨L,⟨some a,len0,m,[]⟩,rfl,hL.symm,⟨?_,hl,hm,fun ha=>(by cases ha),fun a' ha' i u hu=> ?_⟩,⟨hrow,by rw[hL]; exact Nat.le_trans hl hm⟩,fun k hk=> ?_⟩
  ·rw[aH hrow,hL]
  ·cases ha'
   have hlt:i<(flat ks L).length:=(List.getElem?_eq_some_iff.1 hu).1
   rw[aH hrow] at hlt
   have hi:i / ks.length<L.length:=Nat.div_lt_of_lt_mul (by rw[Nat.mul_comm]; exact hlt)
   have hc:i % ks.length<ks.length:=Nat.mod_lt _ hpos
   have e1:i=i / ks.length*ks.length+i % ks.length:=by rw[Nat.mul_comm]; exact(Nat.div_add_mod _ _).symm
   rw[e1,io (List.getElem?_eq_getElem hc) hrow hi] at hu
   obtain⟨q1,q2⟩:=hq (i / ks.length) L[i / ks.length] (List.getElem?_eq_getElem hi)
   obtain⟨_,hlen,hat⟩:=World.cells?_some q1
   have h3:=hat (i % ks.length) hc
   rw[ib q2 (List.getElem?_eq_getElem hc)] at h3
   have hg:L.getD (i / ks.length) []=L[i / ks.length]:=by rw[List.getD_eq_getElem?_getD,List.getElem?_eq_getElem hi]; rfl
   rw[hg] at hu
   rw[e1,←aS,h3]
   exact hu
  ·have hc:m≠0:=fun hc=>by
    unfold SV.blk at hk
    simp[hc] at hk
   obtain⟨cs',h1,h2⟩:=hel 0 (by omega)
   have h4:=qP h1 hpos
   have h5:=aq hk
   simp only[SV.v,Value.ownBlock,Option.some.injEq] at h5
   rw[←h5]
   have:(a.add (0*ks.length)).block=a.block:=by unfold Addr.add; split<;>rfl
   rw[←this]
   exact h4.1
theorem pq {ρ ρ':Env} {m:Nat} (h:Ag m ρ ρ'):∀(vks:List VK) (n:Nat),n+vks.length≤m→ai ρ' n vks=ai ρ n vks
 | [],_,_=>rfl
 | k::vks,n,hn=>by
   simp only[List.length_cons] at hn
   have h1:=h n (by omega)
   simp only[ai,pq h vks (n+1) (by omega)]
   congr 1
   cases k<;>simp only[varD,h1.1,h1.2.1,h1.2.2]
end Go.Proofs.Ytghiofgomcihcaa
