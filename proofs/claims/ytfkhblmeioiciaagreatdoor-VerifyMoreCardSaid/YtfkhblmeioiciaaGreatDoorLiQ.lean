import Derived.Test.YtfkhblmeioiciaaGreatDoorSyZe
import Derived.Test.YtfkhblmeioiciaaGreatDoorLiB
import Derived.Lib.SmallJoins
import Derived.Test.YtfkhblmeioiciaaGreatDoorRows
set_option maxRecDepth 100000
set_option maxHeartbeats 8000000
set_option linter.defProp false
set_option linter.unusedSimpArgs false
set_option linter.unusedVariables false
namespace Go.Proofs.YtfkhblmeioiciaaGreatDoor
open Go Go.RowKit Go.ChangeShapes Go.WideShapes
theorem aa3 {P:Program} {t e:TypeId} {ks:List CE} (r:Rw P e ks) (hpos:0<ks.length) (ht:P.underlying t=some (.slice e)) {H:Type} {enc:TypeId×Value->H} {W:World} {hd:Bool} {v:Value} {fuel:Nat} {x:DataW H×List MemPlace}
  (hf:DataW.trod enc P W 0 (fun _=>true) hd fuel t [v]=some x):∃L s,v=s.v/\s.n=L.length/\RdRow W ks.length s (flat ks L)/\RowsIn ks L/\∀k,s.blk false=some k->k<W.heap.size:=by
 obtain⟨a0,len0,cap0,hcs⟩:=Go.Joins.slice_form ht hf
 obtain rfl:v=.slice a0 len0 cap0:=by simpa using hcs
 rcases Go.Deep.open_slice ht hf with⟨h1,_⟩ | ⟨a,len,cap,m,n,D,Pl,h1,_,hl,hm,hmm,_,hel⟩
 ·simp only[thm5,Value.slice.injEq,and_true] at h1
  obtain⟨rfl,rfl,rfl⟩:=h1
  exact⟨[],⟨none,0,0,[]⟩,rfl,rfl,⟨by simp[flat],Nat.le_refl _,by simp[maxLen],fun _=>⟨rfl,rfl⟩,fun a ha=>(by cases ha)⟩,⟨fun r hr=>(by cases hr),by simp⟩,fun k hk=>by have:=aJ hk;cases this⟩
 ·simp only[thm5,Value.slice.injEq,and_true] at h1
  obtain⟨rfl,rfl,rfl⟩:=h1
  have hmc:m=cap0:=by rw[hmm];rfl
  subst hmc
  rw[r.cells] at hel
  have key:∀i,i<len0->∃x,W.cells? 0 (a.add (i*ks.length)) ks.length=some (rowV ks x)/\aD ks x=true:=fun i hi=>by
   obtain⟨cs',h1,h2⟩:=hel i (by omega)
   obtain⟨x,hx,hx'⟩:=r.opn h2
   exact⟨x,by rw[<-hx];exact h1,hx'⟩
  obtain⟨L,hL,hq⟩:=ajz key
  have hrow:∀x∈L,aD ks x=true:=fun x hx=>by
   obtain⟨i,hi,he⟩:=List.getElem_of_mem hx
   exact(hq i x (by rw[thm6 hi,he])).2
  refine⟨L,⟨some a,len0,m,[]⟩,rfl,hL.symm,⟨?_,hl,hm,fun ha=>(by cases ha),fun a' ha' i u hu=> ?_⟩,⟨hrow,by rw[hL];exact Nat.le_trans hl hm⟩,fun k hk=> ?_⟩
  ·rw[bW hrow,hL]
  ·cases ha'
   have hlt:i<(flat ks L).length:=(bR.1 hu).1
   rw[bW hrow] at hlt
   have hi:i / ks.length<L.length:=Nat.div_lt_of_lt_mul (by rw[Nat.mul_comm];exact hlt)
   have hc:i % ks.length<ks.length:=Nat.mod_lt _ hpos
   have e1:i=i / ks.length*ks.length+i % ks.length:=by rw[Nat.mul_comm];exact(Nat.div_add_mod _ _).symm
   rw[e1,mr (thm6 hc) hrow hi] at hu
   obtain⟨q1,q2⟩:=hq (i / ks.length) L[i / ks.length] (thm6 hi)
   obtain⟨_,hlen,hat⟩:=World.cells?_some q1
   have h3:=hat (i % ks.length) hc
   rw[rW q2 (thm6 hc)] at h3
   have hg:L.getD (i / ks.length) []=L[i / ks.length]:=by rw[cN,thm6 hi];rfl
   rw[hg] at hu
   rw[e1,<-bX,h3]
   exact hu
  ·have hc:m≠0:=fun hc=>by
    unfold SV.blk at hk
    simp[hc] at hk
   obtain⟨cs',h1,h2⟩:=hel 0 (by omega)
   have h4:=ajS h1 hpos
   have h5:=aJ hk
   simp only[SV.v,Value.ownBlock,bh] at h5
   rw[<-h5]
   have:(a.add (0*ks.length)).block=a.block:=by unfold Addr.add;split<;>rfl
   rw[<-this]
   exact h4.1
theorem rwI8:Rw Tryz.prog 37 [some .i8]:=Rw.int .i8 Tryz.underlying37 (by kernel_rfl)
theorem rwI64:Rw Tryz.prog 3 [some .i64]:=Rw.int .i64 Tryz.underlying3 (by kernel_rfl)
theorem rwBo:Rw Tryz.prog 4 [none]:=Rw.bool Tryz.underlying4 (by kernel_rfl)
theorem arN:Rw Tryz.prog 39 [some .i8,some .i8,some .i8,some .i8,none,some .i8,some .i8,some .i64,some .i64]:=by
 refine Rw.struct (ks:=[some .i8,some .i8,some .i8,some .i8,none,some .i8,some .i8,some .i64,some .i64]) ?_ Tryz.underlying39 (by kernel_rfl)
 exact(RwSeq.cons (ks:=[some .i8]) rwI8 (by rfl) (RwSeq.cons (ks:=[some .i8]) rwI8 (by rfl) (RwSeq.cons (ks:=[some .i8]) rwI8 (by rfl) (RwSeq.cons (ks:=[some .i8]) rwI8 (by rfl) (RwSeq.cons (ks:=[none]) rwBo (by rfl) (RwSeq.cons (ks:=[some .i8]) rwI8 (by rfl) (RwSeq.cons (ks:=[some .i8]) rwI8 (by rfl) (RwSeq.cons (ks:=[some .i64]) rwI64 (by rfl) (RwSeq.cons (ks:=[some .i64]) rwI64 (by rfl) (RwSeq.nil _ _))))))))))
theorem Prog.of_arg {H:Type} {enc:TypeId×Value->H} {W:World} {hd:Bool} {v:Value} {d:DataW H} {p:List MemPlace} {rc:Reach} {b0:Nat}
  (hv:Value.okWide Tryz.prog W rc b0 24 v) (h:DataW.Trod enc Tryz.prog W 0 (fun _=>true) hd 24 v d p):∃(c:Int) (L:List (List Int)) (s:_),v=.agg #[.int .i64 c,SV.v s]/\inK .i64 c=true/\s.n=L.length/\RdRow W 9 s (flat [some .i8,some .i8,some .i8,some .i8,none,some .i8,some .i8,some .i64,some .i64] L)/\RowsIn [some .i8,some .i8,some .i8,some .i8,none,some .i8,some .i8,some .i64,some .i64] L/\∀k,s.blk false=some k->k<W.heap.size:=by
 obtain⟨v0,v1,y0,y1,n,rfl,_,_,h0,h1⟩:=Go.Joins.open_agg2 Tryz.underlying24 (by kernel_rfl) (by kernel_rfl) hv h
 obtain⟨q,e0,hq⟩:=rwI64.opn h0
 obtain⟨L,s,rfl,h2,h3,h4,h5⟩:=aa3 arN (by decide) Tryz.underlying22 h1
 obtain⟨c,q,rfl,hc,hq⟩:=abd hq
 obtain rfl:=afB hq
 simp only[rowV,thm5,and_true] at e0
 exact⟨c,L,s,by rw[e0];rfl,hc,h2,h3,h4,h5⟩
end Go.Proofs.YtfkhblmeioiciaaGreatDoor
