import Derived.Test.YtghiofgomcihcaaSyP
import Derived.ChangeSlices
import Derived.ChangeSame
import Derived.ChangeArms
import Derived.Deep.Slices
set_option linter.unusedVariables false
set_option linter.unusedSimpArgs false
namespace Go.Proofs.Ytghiofgomcihcaa
open Go.RowKit Go.ChangeShapes Go.WideShapes
structure Rw (P:Program) (t:TypeId) (ks:List CE):Prop where
 cells:P.cellsOf t=ks.length
 opn:∀{H:Type} {enc:TypeId×Value→H} {W:World} {sp:Nat→Bool} {hd:Bool} {fuel:Nat} {cs:List Value} {d:DataW H×List MemPlace},
  DataW.trod enc P W 0 sp hd fuel t cs=some d→∃r,cs=rowV ks r∧ar ks r=true
theorem kg {k:IntKind} {x:Int} (h:(Lit.int k x).wf=true):inK k x=true:=by
 simp only[Lit.wf,Bool.and_eq_true,decide_eq_true_eq] at h
 rw[aO]; exact h
theorem Rw.int {P:Program} {t:TypeId} (k:IntKind) (ht:P.underlying t=some (.int k)) (hc:P.cellsOf t=1):Rw P t [some k] where
 cells:=hc
 opn:=fun h=>by
  obtain⟨x,h1,_,h2⟩:=DataW.trod_int ht h
  exact⟨[x],h1,by simp[ar,inCE,kg h2]⟩
theorem Rw.bool {P:Program} {t:TypeId} (ht:P.underlying t=some .bool) (hc:P.cellsOf t=1):Rw P t [none] where
 cells:=hc
 opn:=fun h=>by
  obtain⟨x,h1,_⟩:=DataW.trod_bool ht h
  exact⟨[b2i x],by cases x<;>exact h1,by cases x<;>rfl⟩
theorem mb:∀{ks ks':List CE} {r r':List Int},ar ks r=true→rowV (ks++ks') (r++r')=rowV ks r++rowV ks' r'
 | [],ks',[],r',_=>rfl
 | k::ks,ks',x::r,r',h=>by
   simp only[ar,Bool.and_eq_true] at h
   simp only[List.cons_append,rowV,mb h.2]
theorem jN:∀{ks ks':List CE} {r r':List Int},ar ks r=true→ar ks' r'=true→ar (ks++ks') (r++r')=true
 | [],ks',[],r',_,h=>h
 | k::ks,ks',x::r,r',h,h'=>by
   simp only[ar,Bool.and_eq_true] at h
   simp only[List.cons_append,ar,h.1,jN h.2 h',Bool.and_self]
structure RwSeq (P:Program) (off:Nat) (fs:List Field) (ks:List CE):Prop where
 opn:∀{H:Type} {enc:TypeId×Value→H} {W:World} {sp:Nat→Bool} {hd:Bool} {n:Nat} {cs:List Value},
  (∀f∈fs,∃y,DataW.trod enc P W 0 sp hd n f.type ((cs.drop f.offset).take (P.cellsOf f.type))=some y)→cs.length=off+ks.length→∃r,cs.drop off=rowV ks r∧ar ks r=true
theorem RwSeq.nil (P:Program) (off:Nat):RwSeq P off [] []:=⟨fun _ hl=>⟨[],List.drop_eq_nil_of_le (by simp at hl; omega),rfl⟩⟩
theorem RwSeq.cons {P:Program} {off:Nat} {f:Field} {fs:List Field} {ks ks':List CE} (r:Rw P f.type ks) (ho:f.offset=off) (s:RwSeq P (off+ks.length) fs ks'):RwSeq P off (f::fs) (ks++ks'):=⟨fun {H} {enc} {W} {sp} {hd} {n} {cs} h hl=>by
  obtain⟨y,hy⟩:=h f (by simp)
  rw[r.cells,ho] at hy
  obtain⟨a,ha,ha'⟩:=r.opn hy
  obtain⟨b,hb,hb'⟩:=s.opn (fun g hg=>h g (by simp[hg])) (by simp at hl; omega)
  refine⟨a++b,?_,jN ha' hb'⟩
  rw[mb ha',←ha,←hb,←List.drop_drop,List.take_append_drop]⟩
theorem Rw.struct {P:Program} {t:TypeId} {fs:Array Field} {ks:List CE} (s:RwSeq P 0 fs.toList ks) (ht:P.underlying t=some (.struct fs)) (hc:P.cellsOf t=ks.length):Rw P t ks where
 cells:=hc
 opn:=fun {H} {enc} {W} {sp} {hd} {fuel} {cs} {d} h=>by
  obtain⟨xs,n,_,_,hl,hlen,hf⟩:=DataW.trod_struct ht h
  have:=s.opn (enc:=enc) (W:=W) (sp:=sp) (hd:=hd) (n:=n) (cs:=cs) (fun f hm=>by
   obtain⟨i,hi,he⟩:=List.getElem_of_mem hm
   have hi':i<fs.size:=by simpa using hi
   have h1:=hf i f (by rw[Array.getElem?_eq_getElem hi']; simpa using congrArg some he)
   rw[List.getElem?_eq_getElem (by omega)] at h1
   exact⟨_,h1⟩) (by omega)
  simpa using this
theorem rK {α:Type} {n:Nat} {Q:Nat→α→Prop} (h:∀i,i<n→∃x,Q i x):∃l:List α,l.length=n∧∀i x,l[i]? =some x→Q i x:=by
 induction n with
 | zero=>exact⟨[],rfl,by simp⟩
 | succ n ih=>
   obtain⟨l,hl,hq⟩:=ih (fun i hi=>h i (by omega))
   obtain⟨x,hx⟩:=h n (by omega)
   refine⟨l++[x],by simp[hl],fun i y hy=> ?_⟩
   rw[List.getElem?_append] at hy
   split at hy
   ·exact hq i y hy
   ·have:i=n:=by
     rcases Nat.lt_or_ge (i-l.length) 1 with h1 | h1
     ·omega
     ·rw[List.getElem?_eq_none (by simpa using h1)] at hy; cases hy
    subst this
    have:i-l.length=0:=by omega
    rw[this] at hy
    simp at hy
    subst hy
    exact hx
theorem sj {W:World} {a:Addr} {n:Nat} {cs:List Value} (h:W.cells? 0 a n=some cs) (hn:0<n):a.block<W.heap.size∧a.spot=none:=by
 obtain⟨_,hlen,hat⟩:=World.cells?_some h
 have h0:=hat 0 hn
 rw[List.getElem?_eq_getElem (by omega)] at h0
 obtain⟨b,off,spot⟩:=a
 have hs:spot=none:=by
  cases spot with
  | none=>rfl
  | some s=>
    exfalso
    simp[Addr.add,World.cell?] at h0
    split at h0<;>simp at h0
 subst hs
 refine⟨?_,rfl⟩
 rcases Nat.lt_or_ge b W.heap.size with h1 | h1
 ·exact h1
 ·simp[Addr.add,World.cell?,Array.getElem?_eq_none h1] at h0
theorem nD {P:Program} {t e:TypeId} {ks:List CE} (r:Rw P e ks) (hpos:0<ks.length) (ht:P.underlying t=some (.slice e)) {H:Type} {enc:TypeId×Value→H} {W:World} {hd:Bool} {v:Value} {d:DataW H} {p:List MemPlace} {rc:Reach} {b0:Nat}
  (hv:Value.okWide P W rc b0 t v) (h:DataW.Trod enc P W 0 (fun _=>true) hd t v d p):∃L s,v=s.v∧s.n=L.length∧RdRow W ks.length s (flat ks L)∧RowsIn ks L∧∀k,s.blk false=some k→k<W.heap.size:=by
 obtain⟨fuel,hf⟩:=h
 obtain⟨a0,len0,cap0,rfl⟩:=okWide_slice ht hv
 have hcs:(Value.slice a0 len0 cap0).cells.toList=[.slice a0 len0 cap0]:=rfl
 rw[hcs] at hf
 rcases Go.Deep.open_slice ht hf with⟨h1,_⟩ | ⟨a,len,cap,m,n,D,Pl,h1,_,hl,hm,hmm,_,hel⟩
 ·simp only[List.cons.injEq,Value.slice.injEq,and_true] at h1
  obtain⟨rfl,rfl,rfl⟩:=h1
  exact⟨[],⟨none,0,0,[]⟩,rfl,rfl,⟨by simp[flat],Nat.le_refl _,by simp[maxLen],fun _=>⟨rfl,rfl⟩,fun a ha=>(by cases ha)⟩,⟨fun r hr=>(by cases hr),by simp⟩,fun k hk=>by have:=ap hk; cases this⟩
 ·simp only[List.cons.injEq,Value.slice.injEq,and_true] at h1
  obtain⟨rfl,rfl,rfl⟩:=h1
  have hmc:m=cap0:=by rw[hmm]; rfl
  subst hmc
  rw[r.cells] at hel
  have key:∀i,i<len0→∃x,W.cells? 0 (a.add (i*ks.length)) ks.length=some (rowV ks x)∧ar ks x=true:=fun i hi=>by
   obtain⟨cs',h1,h2⟩:=hel i (by omega)
   obtain⟨x,hx,hx'⟩:=r.opn h2
   exact⟨x,by rw[←hx]; exact h1,hx'⟩
  obtain⟨L,hL,hq⟩:=rK key
  have hrow:∀x∈L,ar ks x=true:=fun x hx=>by
   obtain⟨i,hi,he⟩:=List.getElem_of_mem hx
   exact(hq i x (by rw[List.getElem?_eq_getElem hi,he])).2
  refine⟨L,⟨some a,len0,m,[]⟩,rfl,hL.symm,⟨?_,hl,hm,fun ha=>(by cases ha),fun a' ha' i u hu=> ?_⟩,⟨hrow,by rw[hL]; exact Nat.le_trans hl hm⟩,fun k hk=> ?_⟩
  ·rw[aL hrow,hL]
  ·cases ha'
   have hlt:i<(flat ks L).length:=(List.getElem?_eq_some_iff.1 hu).1
   rw[aL hrow] at hlt
   have hi:i / ks.length<L.length:=Nat.div_lt_of_lt_mul (by rw[Nat.mul_comm]; exact hlt)
   have hc:i % ks.length<ks.length:=Nat.mod_lt _ hpos
   have e1:i=i / ks.length*ks.length+i % ks.length:=by rw[Nat.mul_comm]; exact(Nat.div_add_mod _ _).symm
   rw[e1,iZ (List.getElem?_eq_getElem hc) hrow hi] at hu
   obtain⟨q1,q2⟩:=hq (i / ks.length) L[i / ks.length] (List.getElem?_eq_getElem hi)
   obtain⟨_,hlen,hat⟩:=World.cells?_some q1
   have h3:=hat (i % ks.length) hc
   rw[iT q2 (List.getElem?_eq_getElem hc)] at h3
   have hg:L.getD (i / ks.length) []=L[i / ks.length]:=by rw[List.getD_eq_getElem?_getD,List.getElem?_eq_getElem hi]; rfl
   rw[hg] at hu
   rw[e1,←aX,h3]
   exact hu
  ·have hc:m≠0:=fun hc=>by
    unfold SV.blk at hk
    simp[hc] at hk
   obtain⟨cs',h1,h2⟩:=hel 0 (by omega)
   have h4:=sj h1 hpos
   have h5:=ap hk
   simp only[SV.v,Value.ownBlock,Option.some.injEq] at h5
   rw[←h5]
   have:(a.add (0*ks.length)).block=a.block:=by unfold Addr.add; split<;>rfl
   rw[←this]
   exact h4.1
theorem lG {ρ ρ':Env} {m:Nat} (h:Ag m ρ ρ'):∀(vks:List VK) (n:Nat),n+vks.length≤m→ah ρ' n vks=ah ρ n vks
 | [],_,_=>rfl
 | k::vks,n,hn=>by
   simp only[List.length_cons] at hn
   have h1:=h n (by omega)
   simp only[ah,lG h vks (n+1) (by omega)]
   congr 1
   cases k<;>simp only[varD,h1.1,h1.2.1,h1.2.2]
end Go.Proofs.Ytghiofgomcihcaa
set_option linter.unusedVariables false
set_option linter.unusedSimpArgs false
namespace Go.Proofs.Ytghiofgomcihcaa
open Go.RowKit Go.ChangeShapes Go.WideShapes
def repL (ks:List CE):Nat→List CE
 | 0=>[]
 | n+1=>ks++repL ks n
theorem qX (ks:List CE):∀n,(repL ks n).length=n*ks.length
 | 0=>by simp[repL]
 | n+1=>by simp only[repL,List.length_append,qX ks n,Nat.succ_mul]; omega
theorem Rw.array {P:Program} {t e:TypeId} {ks:List CE} {n:Nat} (r:Rw P e ks) (ht:P.underlying t=some (.array n e)) (hc:P.cellsOf t=(repL ks n).length):Rw P t (repL ks n) where
 cells:=hc
 opn:=fun {H} {enc} {W} {sp} {hd} {fuel} {cs} {d} h=>by
  obtain⟨xs,m,_,_,hl,hlen,hf⟩:=DataW.trod_array ht h
  rw[hc,qX] at hl
  have key:∀(k i:Nat),i+k=n→∃q,cs.drop (i*ks.length)=rowV (repL ks k) q∧ar (repL ks k) q=true:=by
   intro k
   induction k with
   | zero=>intro i hi; exact⟨[],by rw[List.drop_eq_nil_of_le (by rw[hl]; exact Nat.mul_le_mul_right _ (by omega))]; rfl,rfl⟩
   | succ k ih=>
     intro i hi
     have h1:=hf i (by omega)
     rw[r.cells,List.getElem?_eq_getElem (by omega)] at h1
     obtain⟨a,ha,ha'⟩:=r.opn h1
     obtain⟨b,hb,hb'⟩:=ih (i+1) (by omega)
     refine⟨a++b,?_,jN ha' hb'⟩
     show _=rowV (ks++repL ks k) _
     rw[mb ha',←ha,←hb,Nat.succ_mul,←List.drop_drop,List.take_append_drop]
  obtain⟨q,h1,h2⟩:=key n 0 (by omega)
  rw[Nat.zero_mul,List.drop_zero] at h1
  exact⟨q,h1,h2⟩
theorem sQ {k:CE} {ks:List CE} {q:List Int} (h:ar (k::ks) q=true):∃x q',q=x::q'∧inCE k x=true∧ar ks q'=true:=by
 cases q with
 | nil=>cases h
 | cons x q'=>
   simp only[ar,Bool.and_eq_true] at h
   exact⟨x,q',rfl,h.1,h.2⟩
theorem vU {q:List Int} (h:ar [] q=true):q=[]:=by
 cases q with
 | nil=>rfl
 | cons=>cases h
def Kl (P:Program) (d t:Nat) (z:List C):Prop:=∀vs,aD vs z→P.keyLits d t vs=some (bD vs)
def repC (z:List C):Nat→List C
 | 0=>[]
 | n+1=>z++repC z n
theorem bO:∀{z:List C} {vs:List Value},aD vs z→vs.length=z.length
 | [],vs,h=>by rw[bE h]; rfl
 | .int k e::r,vs,h=>by
   obtain⟨x,l,rfl,_,h2⟩:=aq h
   simp[bO h2]
 | .bool e::r,vs,h=>by
   obtain⟨x,l,rfl,h2⟩:=bB h
   simp[bO h2]
 | .yld _::_,vs,h | .wn _ _ _ _ _::_,vs,h | .aw _ _ _ _ _ _ _::_,vs,h | .str _::_,vs,h | .pe _ _ _ _ _ _::_,vs,h | .nmp::_,vs,h | .mp _::_,vs,h | .itp _ _::_,vs,h | .ptr _ _::_,vs,h | .fp _ _::_,vs,h | .fn _::_,vs,h | .nilp::_,vs,h | .undef::_,vs,h | .sl _::_,vs,h | .ep _ _ _ _::_,vs,h | .nsl::_,vs,h | .nilf::_,vs,h | .clo _ _ _::_,vs,h=>by
   cases vs with
   | nil=>exact h.elim
   | cons v l=>cases v<;>exact h.elim
theorem eB:∀{z z':List C} {vs:List Value},aD vs (z++z')→∃v1 v2,vs=v1++v2∧aD v1 z∧aD v2 z'∧bD vs=bD v1++bD v2
 | [],z',vs,h=>⟨[],vs,rfl,trivial,h,rfl⟩
 | .int k e::r,z',vs,h=>by
   obtain⟨x,l,rfl,hx,h2⟩:=aq (r:=r++z') h
   obtain⟨v1,v2,rfl,h3,h4,h5⟩:=eB h2
   exact⟨.int k x::v1,v2,rfl,⟨rfl,hx,h3⟩,h4,by simp[bD,h5]⟩
 | .bool e::r,z',vs,h=>by
   obtain⟨x,l,rfl,h2⟩:=bB (r:=r++z') h
   obtain⟨v1,v2,rfl,h3,h4,h5⟩:=eB h2
   exact⟨.bool x::v1,v2,rfl,h3,h4,by simp[bD,h5]⟩
 | .yld _::_,_,vs,h | .wn _ _ _ _ _::_,_,vs,h | .aw _ _ _ _ _ _ _::_,_,vs,h | .str _::_,_,vs,h | .pe _ _ _ _ _ _::_,_,vs,h | .nmp::_,_,vs,h | .mp _::_,_,vs,h | .itp _ _::_,_,vs,h | .ptr _ _::_,_,vs,h | .fp _ _::_,_,vs,h | .fn _::_,_,vs,h | .nilp::_,_,vs,h | .undef::_,_,vs,h | .sl _::_,_,vs,h | .ep _ _ _ _::_,_,vs,h | .nsl::_,_,vs,h | .nilf::_,_,vs,h | .clo _ _ _::_,_,vs,h=>by
   cases vs with
   | nil=>exact h.elim
   | cons v l=>cases v<;>exact h.elim
theorem Kl.int {P:Program} {d t:Nat} {k:IntKind} (e:E) (ht:P.underlying t=some (.int k)):Kl P (d+1) t [.int k e]:=fun vs hv=>by
 obtain⟨x,l,rfl,hx,h2⟩:=aq hv
 obtain rfl:=bE h2
 have hw:(Lit.int k x).wf=true:=hx
 simp[Program.keyLits,ht,bD,hw]
theorem Kl.array {P:Program} {d t e n:Nat} {z:List C} (h:Kl P d e z) (ht:P.underlying t=some (.array n e)) (he:P.cellsOf e=z.length) (hc:P.cellsOf t=n*z.length):Kl P (d+1) t (repC z n):=fun vs hv=>by
 have key:∀(k i:Nat) (cs us:List Value),cs.drop (i*z.length)=us→aD us (repC z k)→∃ls,((List.range' i k).mapM fun i=>P.keyLits d e ((cs.drop (i*P.cellsOf e)).take (P.cellsOf e)))=some ls∧ls.flatten=bD us:=by
  intro k
  induction k with
  | zero=>intro i cs us _ hu; exact⟨[],rfl,by rw[bE hu]; rfl⟩
  | succ k ih=>
    intro i cs us hd hu
    obtain⟨v1,v2,rfl,h1,h2,h3⟩:=eB (z:=z) (z':=repC z k) hu
    have hl:=bO h1
    obtain⟨ls,g1,g2⟩:=ih (i+1) cs v2 (by rw[Nat.succ_mul,←List.drop_drop,hd,List.drop_left' hl]) h2
    refine⟨bD v1::ls,?_,by rw[List.flatten_cons,g2,h3]⟩
    rw[List.range'_succ,List.mapM_cons,he,hd,List.take_left' hl,h v1 h1]
    rw[he] at g1
    simp only[Option.pure_def,Option.bind_eq_bind,Option.bind_some,g1]
 obtain⟨ls,g1,g2⟩:=key n 0 vs vs (by simp) hv
 have hl:vs.length=P.cellsOf t:=by
  have hr:∀m,(repC z m).length=m*z.length:=fun m=>by
   induction m with
   | zero=>simp[repC]
   | succ m ih=>simp only[repC,List.length_append,ih,Nat.succ_mul]; omega
  rw[hc,bO hv,hr]
 simp only[Program.keyLits,ht,hl,if_true]
 rw[List.range_eq_range',g1]
 simp[g2]
def KlSeq (P:Program) (d off:Nat) (fs:List Field) (z:List C):Prop:=∀(cs us:List Value),cs.drop off=us→aD us z→∃ls,(fs.mapM fun f=>P.keyLits d f.type ((cs.drop f.offset).take (P.cellsOf f.type)))=some ls∧ls.flatten=bD us
theorem KlSeq.nil (P:Program) (d off:Nat):KlSeq P d off [] []:=fun cs us _ hu=>⟨[],rfl,by rw[bE hu]; rfl⟩
theorem KlSeq.cons {P:Program} {d off:Nat} {f:Field} {fs:List Field} {z z':List C} (h:Kl P d f.type z) (ho:f.offset=off) (hc:P.cellsOf f.type=z.length) (h':KlSeq P d (off+z.length) fs z'):KlSeq P d off (f::fs) (z++z'):=fun cs us hd hu=>by
 obtain⟨v1,v2,rfl,h1,h2,h3⟩:=eB hu
 have hl:=bO h1
 obtain⟨ls,g1,g2⟩:=h' cs v2 (by rw[←List.drop_drop,hd,List.drop_left' hl]) h2
 refine⟨bD v1::ls,?_,by rw[List.flatten_cons,g2,h3]⟩
 rw[List.mapM_cons,ho,hc,hd,List.take_left' hl,h v1 h1]
 simp only[Option.pure_def,Option.bind_eq_bind,Option.bind_some,g1]
theorem Kl.struct {P:Program} {d t:Nat} {fs:Array Field} {z:List C} (h:KlSeq P d 0 fs.toList z) (ht:P.underlying t=some (.struct fs)) (hc:P.cellsOf t=z.length) (hn:fs.all (·.name != "_")=true):Kl P (d+1) t z:=fun vs hv=>by
 obtain⟨ls,g1,g2⟩:=h vs vs rfl hv
 have hl:vs.length=P.cellsOf t:=by rw[hc,bO hv]
 simp only[Program.keyLits,ht,hl,hn,and_self,if_true,g1]
 simp[g2]
theorem wX {P:Program} {t:Nat} {fs:Array Field} {z:List C} (ht:P.underlying t=some (.struct fs)) (hc:P.cellsOf t=z.length) (vs:List Value) (hv:aD vs z):(Value.agg vs.toArray).formed P t=true:=by
 simp[Value.formed,ht,hc,bO hv]
end Go.Proofs.Ytghiofgomcihcaa
