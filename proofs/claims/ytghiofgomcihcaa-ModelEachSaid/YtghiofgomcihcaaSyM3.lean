import Derived.Test.YtghiofgomcihcaaSyM2
set_option linter.unusedVariables false
set_option linter.unusedSimpArgs false
namespace Go.Proofs.Ytghiofgomcihcaa
open Go Go.RowKit
section
variable {P:Program} {sp:Spec} {ρ:Env} {G:Env→E→Prop} {I:Nat→List Dt→Prop} {cx:Cx} {cl:ClK} {n:Nat} {X:List Value} {W0:Wb} {ro:Option Nat} {ry:Option RfS} {ops:Array Oper}
theorem ja:∀(l:List Oper) (k i:Nat) (p:Nat×Oper),(cB k l)[i]? =some p→p.1=k+i∧l[i]? =some p.2
 | [],k,i,p,h=>by simp[cB] at h
 | o::l,k,i,p,h=>by
   cases i with
   | zero=>simp only[cB,List.getElem?_cons_zero,Option.some.injEq] at h; subst h; exact⟨rfl,rfl⟩
   | succ i=>
     have:=ja l (k+1) i p (by simpa[cB] using h)
     exact⟨by omega,by simpa using this.2⟩
theorem km:∀(l:List Oper) (k:Nat),(cB k l).length=l.length
 | [],_=>rfl
 | _::l,k=>by simp[cB,km l (k+1)]
theorem kn:∀(l:List Oper) (k:Nat),(cB k l).map (·.1)=List.range' k l.length
 | [],_=>rfl
 | _::l,k=>by simp[cB,kn l (k+1),List.range'_succ]
theorem yM {k:Nat} {o:Oper} (h:ops[k]? =some o):(k,o)∈cB 0 ops.toList:=by
 have hk:k<ops.toList.length:=by have:=(Array.getElem?_eq_some_iff.1 h).1; simpa using this
 have hl:k<(cB 0 ops.toList).length:=by rw[km]; exact hk
 have h1:=List.getElem?_eq_getElem hl
 obtain⟨e1,e2⟩:=ja _ _ _ _ h1
 have e3:ops.toList[k]? =some o:=by rw[Array.getElem?_toList]; exact h
 rw[e3] at e2
 have:(cB 0 ops.toList)[k]=(k,o):=Prod.ext (by omega) (Option.some.inj e2).symm
 rw[←this]
 exact List.getElem_mem hl
theorem xg {p:Nat×Oper} (h:p∈cB 0 ops.toList):ops[p.1]? =some p.2:=by
 obtain⟨i,hi⟩:=List.getElem?_of_mem h
 obtain⟨h1,h2⟩:=ja _ 0 i p hi
 rw[h1,Nat.zero_add,←Array.getElem?_toList]; exact h2
theorem oJ {l:List (Nat×Oper)} {p:Nat×Oper} (h:gq cx l=some p):p∈l:=by
 induction l with
 | nil=>cases h
 | cons q l ih=>
   rw[gq] at h
   by_cases hb:abz cx q.2=true
   ·rw[if_pos hb] at h
    rw[←Option.some.inj h]
    exact List.mem_cons_self
   ·rw[if_neg hb] at h
    exact List.mem_cons_of_mem _ (ih h)
theorem oD:∀(l:List Oper) (ms:List Nat),(l.foldl (fun ms o=>ms++[dA o ms]) ms).length=ms.length+l.length
 | [],ms=>rfl
 | o::l,ms=>by simp only[List.foldl_cons,oD l,List.length_append,List.length_cons,List.length_nil]; omega
theorem rI:∀(l:List Oper) (ms:List Nat) (i:Nat),(i<ms.length→(l.foldl (fun ms o=>ms++[dA o ms]) ms)[i]? =ms[i]?)∧
  ∀o,l[i]? =some o→∃pre,pre.length=ms.length+i∧(∀k,k<pre.length→(l.foldl (fun ms o=>ms++[dA o ms]) ms)[k]? =pre[k]?)∧(l.foldl (fun ms o=>ms++[dA o ms]) ms)[ms.length+i]? =some (dA o pre)
 | [],ms,i=>⟨fun _=>rfl,fun o h=>by simp at h⟩
 | o::l,ms,i=>by
   simp only[List.foldl_cons]
   have ih:=rI l (ms++[dA o ms])
   refine⟨fun h=>by rw[(ih i).1 (by simp; omega),List.getElem?_append_left h],fun o' h=> ?_⟩
   cases i with
   | zero=>
     simp only[List.getElem?_cons_zero,Option.some.injEq] at h
     subst h
     refine⟨ms,rfl,fun k hk=>by rw[(ih k).1 (by simp; omega),List.getElem?_append_left hk],?_⟩
     rw[Nat.add_zero,(ih ms.length).1 (by simp),List.getElem?_append_right (Nat.le_refl _)]
     simp
   | succ i=>
     obtain⟨pre,h1,h2,h3⟩:=(ih i).2 o' (by simpa using h)
     simp only[List.length_append,List.length_cons,List.length_nil] at h1 h3
     exact⟨pre,by omega,h2,by rw[show ms.length+(i+1)=ms.length+(0+1)+i by omega]; exact h3⟩
theorem cM:∀(i k:Nat),bp (av ops) i k=true→xJ ops k i:=by
 intro i
 induction i using Nat.strongRecOn with
 | _ i ih=>
   intro k hk sel hc hd
   unfold bp at hk
   cases ho:ops.toList[i]? with
   | none=>
     have hge:=List.getElem?_eq_none_iff.1 ho
     rw[List.getD_eq_getElem?_getD,List.getElem?_eq_none (by unfold av; rw[oD]; simp at hge ⊢; omega)] at hk
     simp at hk
   | some o=>
     obtain⟨pre,h1,h2,h3⟩:=(rI ops.toList [] i).2 o ho
     simp only[List.length_nil,Nat.zero_add] at h1 h3
     rw[List.getD_eq_getElem?_getD,show(av ops)[i]? =some (dA o pre) from h3] at hk
     have ho':ops[i]? =some o:=by rw[←Array.getElem?_toList]; exact ho
     rcases mu _ 0 hk with h4 | ⟨e,h4,h5,h6⟩
     ·simp at h4
     ·have h4':e∈o.after:=by simpa using h4
      have hs:=hd o ho' e h4' h5
      rcases h6 with rfl | h6
      ·exact hs
      ·have hlt:e.on<pre.length:=by
        rcases Nat.lt_or_ge e.on pre.length with h7 | h7
        ·exact h7
        ·rw[List.getD_eq_getElem?_getD,List.getElem?_eq_none h7] at h6
         simp at h6
       have h7:bp (av ops) e.on k=true:=by
        unfold bp
        rw[List.getD_eq_getElem?_getD,show(av ops)[e.on]? =pre[e.on]? from h2 e.on hlt,←List.getD_eq_getElem?_getD]
        exact h6
       exact ih e.on (by omega) k h7 sel hc (fun o' ho2 e' he' hb'=>hc e.on o' ho2 hs e' he' hb')
theorem yW (hT:∀t i,(t,i)∈cx.ty→TIok P t i) {sel sel':Nat→Bool} {i:Nat} {o:Oper} (h:xb cx ops sel i o=true) (hsel:∀k,k<ops.size→sel k=true→k≠i→sel' k=true):Float P ops sel' i o:=by
 simp only[xb,Bool.and_eq_true] at h
 obtain⟨h1,h2,h3,h4⟩:=h
 refine⟨fun a w K hw=> ?_,by simpa using h1,h3,fun k ok hk hne hs hno=> ?_⟩
 rotate_left
 ·have hkl:k<ops.size:=(Array.getElem?_eq_some_iff.1 hk).1
  have hm:(k,ok)∈cB 0 ops.toList:=yM hk
  have h5:=List.all_eq_true.1 h4 (k,ok) hm
  simp only[Bool.or_eq_true] at h5
  rcases h5 with h5 | h5 | h5 | h5
  ·exact absurd (Nat.eq_of_beq_eq_true h5) hne
  ·rw[hsel k hkl h5 hne] at hs; cases hs
  ·obtain⟨e,he,hb⟩:=List.any_eq_true.1 h5
   rw[Bool.and_eq_true] at hb
   exact absurd (Nat.eq_of_beq_eq_true hb.2) (hno e (by simpa using he) hb.1)
  ·exact h5
 split at h2
 ·rename_i x hop; exact kK (.inl hop) a
 ·rename_i x hop; exact kK (.inr hop) a
 ·rename_i s x f hop
  split at h2
  ·rename_i ti hti
   obtain⟨p,hp⟩:=Option.isSome_iff_exists.1 h2
   exact o4 hop (hT _ _ (ab hti)) (off:=p.1) (ft:=p.2) hp hw
  ·cases h2
 ·rename_i t x y hop; exact o3 hop hw
 ·rename_i x hop; exact uy hop hw
 ·rename_i t x l h' m hop; exact oZ hop hw
 ·cases h2
theorem wl {ms:List Nat} {p:Nat×Rec} {l:List (Nat×Rec)} (h:rj ops ms p l=true) (q:Nat×Rec) (hq:q∈l):bp ms p.1 q.1=true∨Indep ops q.2 p.2:=by
 induction l with
 | nil=>cases hq
 | cons x l ih=>
   rw[rj,Bool.and_eq_true,Bool.or_eq_true] at h
   rcases List.mem_cons.1 hq with e | hq
   ·rw[e]
    exact h.1.imp id rO
   ·exact ih h.2 hq
theorem jj {ms:List Nat}:∀{l pre:List (Nat×Rec)},iJ ops ms pre l=true→∀(m q:Nat) x r,m<q→pre.length≤q→(pre++l)[m]? =some x→(pre++l)[q]? =some r→bp ms r.1 x.1=true∨Indep ops x.2 r.2
 | [],pre,_,m,q,x,r,hm,hq,hx,hr=>by rw[List.append_nil,List.getElem?_eq_none hq] at hr; cases hr
 | p::l,pre,h,m,q,x,r,hm,hq,hx,hr=>by
   simp only[iJ,Bool.and_eq_true] at h
   rcases Nat.lt_or_ge pre.length q with h1 | h1
   ·exact jj h.2 m q x r hm (by simp; omega) (by simpa using hx) (by simpa using hr)
   ·have:q=pre.length:=by omega
    subst this
    rw[List.getElem?_append_right (Nat.le_refl _)] at hr
    simp only[Nat.sub_self,List.getElem?_cons_zero,Option.some.injEq] at hr
    subst hr
    rw[List.getElem?_append_left hm] at hx
    exact wl h.1 x (List.mem_of_getElem? hx)
theorem tI:∀{A:List (Nat×Oper)} {rs:List Rec},rs.map (·.o)=A.map (·.2)→∀(m:Nat) p,((A.map (·.1)).zip rs)[m]? =some p→A[m]? =some (p.1,p.2.o)∧rs[m]? =some p.2
 | [],rs,_,m,p,hp=>by simp at hp
 | a::A,[],h,m,p,hp=>by simp at h
 | a::A,r::rs,h,m,p,hp=>by
   simp only[List.map_cons,List.cons.injEq] at h
   cases m with
   | zero=>
     simp only[List.map_cons,List.zip_cons_cons,List.getElem?_cons_zero,Option.some.injEq] at hp
     subst hp
     exact⟨by rw[h.1]; rfl,rfl⟩
   | succ m=>exact tI h.2 m p (by simpa using hp)
theorem oV:∀{A:List (Nat×Oper)} {rs:List Rec},rs.map (·.o)=A.map (·.2)→((A.map (·.1)).zip rs).map (·.1)=A.map (·.1)
 | [],rs,_=>by simp
 | a::A,[],h=>by simp at h
 | a::A,r::rs,h=>by
   simp only[List.map_cons,List.cons.injEq] at h
   simp[oV h.2]
theorem lD:∀{A:List (Nat×Oper)} {rs:List Rec} (F:FS),rs.map (·.o)=A.map (·.2)→∀m,kE (((A.map (·.1)).zip rs).take m) F=full (rs.take m) F
 | [],[],F,_,m=>by simp[kE,full]
 | [],r::rs,F,h,m=>by simp at h
 | a::A,[],F,h,m=>by simp at h
 | a::A,r::rs,F,h,m=>by
   simp only[List.map_cons,List.cons.injEq] at h
   cases m with
   | zero=>rfl
   | succ m=>
     simp only[List.map_cons,List.zip_cons_cons,List.take_succ_cons,kE,full,List.foldl_cons]
     exact lD (F.rec' r) h.2 m
theorem xA (h:lz ops=true) {i:Nat} {o:Oper} (ho:ops[i]? =some o):∀e∈o.after,Region.binds .any e=true→e.on<i:=by
 intro e he hb
 have hm:(i,o)∈cB 0 ops.toList:=by
  have hlt:=(Array.getElem?_eq_some_iff.1 ho).1
  have:i<(cB 0 ops.toList).length:=by rw[km]; simpa using hlt
  have h1:=List.getElem?_eq_getElem this
  obtain⟨h2,h3⟩:=ja _ 0 i _ h1
  rw[←Array.getElem?_toList] at ho
  rw[ho] at h3
  have:(cB 0 ops.toList)[i]=(i,o):=Prod.ext (by rw[h2,Nat.zero_add]) (Option.some.inj h3).symm
  rw[←this]; exact List.getElem_mem _
 unfold lz at h
 rw[Bool.and_eq_true] at h
 have:=List.all_eq_true.1 (List.all_eq_true.1 h.2 _ hm) e (by simpa using he)
 simpa[hb,Nat.blt_eq] using this
theorem sY (h:lz ops=true) (j:Nat) (o:Oper) (c:Call) (ho:ops[j]? =some o):o.op≠.defer c:=by
 unfold lz at h
 rw[Bool.and_eq_true] at h
 have:=List.all_eq_true.1 h.1 o (by rw[←Array.getElem?_toList] at ho; exact List.mem_of_getElem? ho)
 intro e
 rw[e] at this
 cases this
theorem aaX (hT:∀t i,(t,i)∈cx.ty→TIok P t i) (hS:∀s∈cx.sm,SmOk P sp s) (hkeys:∀s∈cx.sm,∀s'∈cx.sm,s.key=s'.key→s=s') (hcl:ClOk P sp G cx ry cl X W0) (hb:lz ops=true) {Q:Exit→Act→World→Prop} (hQ:∀c a w,¬Q (.panic c) a w):
  ∀(m:Nat) (todo:List (Nat×Oper)) (s:St) (kw:Kw) (k:St→Kw→Tr) (ρ:Env) (I:Nat→List Dt→Prop) (listed:Array Bool) (j:J) (a:Act) (w:World),(regD cl cx ops (av ops) m todo s kw k).holds sp G ρ I→Good sp cx.sm ρ kw→At cx ρ n X W0 s j a w→
   (∀p∈todo,ops[p.1]? =some p.2)→(todo.map (·.1)).Nodup→listed.size=ops.size→dd ops (fun i=>listed.getD i false)→(∀i,i<ops.size→(listed.getD i false=false↔∃p∈todo,p.1=i))→
   (∀s' kw' ρ' I' j' a' w',(k s' kw').holds sp G ρ' I'→Good sp cx.sm ρ' kw'→Nx kw kw' ρ ρ' I I'→At cx ρ' n X W0 s' j' a' w'→Q .normal a' w')→∀fuel,cnt ops listed≤fuel→wpAnyIn (Fw ro) 0 P .any ops Q fuel listed a w:=by
 intro m
 induction m with
 | zero=>intro todo s kw k ρ I listed j a w h; exact h.elim
 | succ m ih=>
   intro todo s kw k ρ I listed j a w h hg hr hop hnd hsz hc hun hK fuel hf
   have part:∀(A:List (Nat×Oper)) (outs:List (Nat×Oper)) (rs:List Rec) (s':St) (kw':Kw),(∀p∈A,p∈todo)→(A.map (·.1)).Nodup→(∀p∈todo,p∈A∨∃q∈outs,q.1=p.1)→
    KwGe kw' kw→rs.map (·.o)=A.map (·.2)→s'.fs=full rs s.fs→(s'.tmps.length=s.tmps.length∧s'.n=s.n)→(∀(m:Nat) r,rs[m]? =some r→RecOk P ρ s.n W0.heap.size cx.fbs ops r (full (rs.take m) s.fs))→sJ cx ops (av ops) ((A.map (·.1)).zip rs) outs=true→
    (∀(listed':Array Bool) j' a' w',listed'.size=ops.size→dd ops (fun i=>listed'.getD i false)→(∀i,listed'.getD i false=true↔(listed.getD i false=true∨∃p∈A,p.1=i))→At cx ρ n X W0 s' j' a' w'→∀fuel,cnt ops listed'≤fuel→wpAnyIn (Fw ro) 0 P .any ops Q fuel listed' a' w')→
    wpAnyIn (Fw ro) 0 P .any ops Q fuel listed a w:=by
    intro A outs rs s' kw' hA hndA hcov hkw h2 h3 h4 h5 hseg hend
    simp only[sJ,Bool.and_eq_true] at hseg
    obtain⟨g1,g2,g3⟩:=hseg
    have memL:∀p,p∈(A.map (·.1)).zip rs→(p.1,p.2.o)∈A:=fun p hp=>by
     obtain⟨i,hi⟩:=List.getElem?_of_mem hp
     exact List.mem_of_getElem? (tI h2 i p hi).1
    have idxL:∀i,(∃p∈A,p.1=i)→∃p∈(A.map (·.1)).zip rs,p.1=i:=fun i ⟨p,hp,e⟩=>by
     have:i∈((A.map (·.1)).zip rs).map (·.1):=by rw[oV h2]; exact List.mem_map.2 ⟨p,hp,e⟩
     obtain⟨q,hq,e2⟩:=List.mem_map.1 this
     exact⟨q,hq,e2⟩
    refine aaq (fb:=cx.fbs) (n:=n) (X:=X) (W0:=W0) (ρ:=ρ) (F0:=s.fs) (L:=(A.map (·.1)).zip rs) (base:=fun i=>listed.getD i false) hQ (sY hb) (fun p hp=>hop _ (hA _ (memL p hp))) (by rw[oV h2]; exact hndA) (fun i p hp=> ?_) (fun i q x r hiq hx hq=> ?_) (fun p hp e he hbd=> ?_) (fun i hi hbase hnot p hp=> ?_) (fun listed' j' a' w' hs' hc' hl' hrel=> ?_)
     _ listed j a w (Nat.le_refl _) hsz hc (fun i hi=>.inl hi) (fun i hi=>hi) ?_ fuel hf
    ·rw[lD s.fs h2]
     have:=h5 i p.2 (tI h2 i p hp).2
     rw[hr.own] at this
     exact this
    ·rcases jj g1 i q x r hiq (Nat.zero_le _) (by simpa using hx) (by simpa using hq) with h6 | h6
     ·exact .inr (cM _ _ h6)
     ·exact .inl h6
    ·have h6:=List.all_eq_true.1 (List.all_eq_true.1 g2 p hp) e (by simpa using he)
     simp only[hbd,Bool.not_true,Bool.false_or,Bool.and_eq_true,Nat.blt_eq] at h6
     refine⟨h6.1,?_⟩
     cases hbl:listed.getD e.on false with
     | true=>exact .inl rfl
     | false=>
       right
       have hpl:=(Array.getElem?_eq_some_iff.1 (hop _ (hA _ (memL p hp)))).1
       obtain⟨q,hq,e1⟩:=(hun e.on (Nat.lt_trans h6.1 hpl)).1 hbl
       rcases hcov q hq with h7 | ⟨q2,h7,e2⟩
       ·exact idxL _ ⟨q,h7,e1⟩
       ·exfalso
        have:=List.all_eq_true.1 h6.2 q2 h7
        rw[e2,e1] at this
        simp at this
    ·obtain⟨q,hq,e1⟩:=(hun i hi).1 hbase
     rcases hcov q hq with h7 | ⟨q2,h7,e2⟩
     ·exfalso
      obtain⟨x,hx,ex⟩:=idxL i ⟨q,h7,e1⟩
      exact hnot x hx ex
     ·have h8:=List.all_eq_true.1 (List.all_eq_true.1 g3 q2 h7) p hp
      simp only[Bool.or_eq_true] at h8
      rw[e2,e1] at h8
      rcases h8 with h8 | h8
      ·exact .inr (cM _ _ h8)
      ·refine .inl (yW hT h8 fun k hk hsk hne=> ?_)
       simp only[Bool.and_eq_true,Bool.not_eq_true',List.any_eq_false,Bool.and_eq_true] at hsk
       show(listed.getD k false||_)=true
       cases hlk:listed.getD k false with
       | true=>rfl
       | false=>
         obtain⟨q3,hq3,e3⟩:=(hun k hk).1 hlk
         rcases hcov q3 hq3 with h9 | ⟨q4,h9,e4⟩
         ·obtain⟨x,hx,ex⟩:=idxL k ⟨q3,h9,e3⟩
          have:=hsk.2 x hx
          rw[Bool.false_or,List.any_eq_true]
          refine⟨x,hx,?_⟩
          rw[ex] at this ⊢
          simpa using this
         ·have:=hsk.1 q4 h9
          rw[e4,e3] at this
          simp at this
    ·refine hend listed' j' a' w' hs' hc' (fun i=>⟨fun h=> ?_,fun h=> ?_⟩) ⟨?_,by rw[h4.1]; exact hr.len,by rw[h4.2]; exact hr.own⟩
     ·rcases(hl' i).1 h with h | ⟨p,hp,e⟩
      ·exact .inl h
      ·exact .inr ⟨_,memL p hp,e⟩
     ·rcases h with h | h
      ·exact(hl' i).2 (.inl h)
      ·exact(hl' i).2 (.inr (idxL i h))
     ·rw[h3]
      have:=lD s.fs h2 rs.length
      rw[List.take_of_length_le (by rw[List.length_zip]; omega),List.take_of_length_le (Nat.le_refl _)] at this
      rw[←this]; exact hrel
    ·rw[kR]
     ·exact hr.rel
     ·intro p hp
      have hp':=hA _ (memL p hp)
      exact(hun p.1 (Array.getElem?_eq_some_iff.1 (hop _ hp')).1).2 ⟨_,hp',rfl⟩
   have both:∀{ci:Nat} {co:Oper} {u:Nat×Oper},(ci,co)∈todo→ops[ci]? =some co→(todo.filter fun p=>!Nat.beq p.1 ci &&!bp (av ops) p.1 ci).find? (fun p=>!bp (av ops) ci p.1 &&!acA p.2)=some u→
    (opsK cx ops (((todo.filter fun p=>!Nat.beq p.1 ci &&!bp (av ops) p.1 ci).filter fun p=>!Nat.beq p.1 u.1 &&!bp (av ops) p.1 u.1).map (·.2)) s kw fun rs s' kw'=>if sJ cx ops (av ops) ((((todo.filter fun p=>!Nat.beq p.1 ci &&!bp (av ops) p.1 ci).filter fun p=>!Nat.beq p.1 u.1 &&!bp (av ops) p.1 u.1).map (·.1)).zip rs) (todo.filter fun p=>!(((todo.filter fun p=>!Nat.beq p.1 ci &&!bp (av ops) p.1 ci).filter fun p=>!Nat.beq p.1 u.1 &&!bp (av ops) p.1 u.1).any fun q=>Nat.beq q.1 p.1))&&Mt.ok (sI s' kw') cx kw'.vk s'.tmps s' then
     .both kw'.vk.length (opsK cx ops [u.2] s' (kw'.head []) fun _ s2 kw2=>regD cl cx ops (av ops) m ((todo.filter fun p=>!(((todo.filter fun p=>!Nat.beq p.1 ci &&!bp (av ops) p.1 ci).filter fun p=>!Nat.beq p.1 u.1 &&!bp (av ops) p.1 u.1).any fun q=>Nat.beq q.1 p.1)).filter fun p=>!Nat.beq p.1 u.1) s2 kw2 k)
      (barK cl cx ops co s' (kw'.head []) fun s2 kw2=>regD cl cx ops (av ops) m ((todo.filter fun p=>!(((todo.filter fun p=>!Nat.beq p.1 ci &&!bp (av ops) p.1 ci).filter fun p=>!Nat.beq p.1 u.1 &&!bp (av ops) p.1 u.1).any fun q=>Nat.beq q.1 p.1)).filter fun p=>!Nat.beq p.1 ci) s2 kw2 k)
    else .stuck 127:Tr).holds sp G ρ I→wpAnyIn (Fw ro) 0 P .any ops Q fuel listed a w:=by
    intro ci co u hmem hco hfind h
    have humem0:=List.mem_of_find?_eq_some hfind
    obtain⟨humem,hunot⟩:=List.mem_filter.1 humem0
    simp only[Bool.and_eq_true,Bool.not_eq_true'] at hunot
    have huo:=hop _ humem
    have huci:u.1≠ci:=fun e=>by rw[e] at hunot; simp at hunot
    generalize hA:((todo.filter fun p=>!Nat.beq p.1 ci &&!bp (av ops) p.1 ci).filter fun p=>!Nat.beq p.1 u.1 &&!bp (av ops) p.1 u.1)=A0 at h
    have memA:∀p,p∈A0↔p∈todo∧(p.1≠ci∧bp (av ops) p.1 ci=false)∧p.1≠u.1∧bp (av ops) p.1 u.1=false:=fun p=>by
     have nb:∀a b:Nat,Nat.beq a b=false↔a≠b:=fun a b=>by
      constructor
      ·intro h e; rw[e] at h; simp at h
      ·intro h
       cases hb2:Nat.beq a b with
       | false=>rfl
       | true=>exact absurd (Nat.eq_of_beq_eq_true hb2) h
     rw[←hA,List.mem_filter,List.mem_filter]
     simp only[Bool.and_eq_true,Bool.not_eq_true',nb,and_assoc]
    have idxT:∀{p q:Nat×Oper},p∈todo→q∈todo→p.1=q.1→p=q:=by
     intro p q hp hq e
     have h6:=hop p hp
     have h7:=hop q hq
     rw[e,h7] at h6
     exact Prod.ext e (Option.some.inj h6).symm
    generalize hR:(todo.filter fun p=>!(A0.any fun q=>Nat.beq q.1 p.1))=R at h
    have memR:∀p,p∈R↔p∈todo∧p ∉ A0:=fun p=>by
     rw[←hR,List.mem_filter]
     constructor
     ·rintro ⟨h1,h2⟩
      refine⟨h1,fun h3=> ?_⟩
      simp only[Bool.not_eq_true',List.any_eq_false] at h2
      have:=h2 p h3
      simp at this
     ·rintro ⟨h1,h2⟩
      refine⟨h1,?_⟩
      simp only[Bool.not_eq_true',List.any_eq_false]
      intro q hq hb2
      have:=idxT ((memA q).1 hq).1 h1 (Nat.eq_of_beq_eq_true (by simpa using hb2))
      exact h2 (this▸hq)
    obtain⟨rs,s',kw',h1,g1,l1,h2,h3,h4,h5⟩:=ed (P:=P) (base:=W0.heap.size) hT hS hkeys _ s kw _ h hg hr.le
    split at h1
    ·rename_i hseg
     rw[Bool.and_eq_true] at hseg
     have ndA:(A0.map (·.1)).Nodup:=by
      rw[←hA]
      exact(hnd.sublist (List.Sublist.map _ List.filter_sublist)).sublist (List.Sublist.map _ List.filter_sublist)
     have ndR:(R.map (·.1)).Nodup:=by rw[←hR]; exact hnd.sublist (List.Sublist.map _ List.filter_sublist)
     refine part A0 R rs s' kw' (fun p hp=>((memA p).1 hp).1) ndA (fun p hp=> ?_) l1 h2 h3 h4 h5 hseg.1 (fun listed' j' a' w' hs' hc' hl' hat fuel' hf'=> ?_)
     ·by_cases hpa:p∈A0
      ·exact .inl hpa
      ·exact .inr ⟨p,(memR p).2 ⟨hp,hpa⟩,rfl⟩
     ·have hcil:ci<ops.size:=(Array.getElem?_eq_some_iff.1 hco).1
      have huil:u.1<ops.size:=(Array.getElem?_eq_some_iff.1 huo).1
      have gd:∀i,i<ops.size→listed'.getD i true=listed'.getD i false:=fun i hi=>by
       rw[Array.getD_eq_getD_getElem?,Array.getD_eq_getD_getElem?,Array.getElem?_eq_getElem (by omega)]; rfl
      have left:∀i,i<ops.size→(listed'.getD i false=false↔∃p∈R,p.1=i):=by
       intro i hi
       constructor
       ·intro h6
        have h7:listed.getD i false=false:=by
         cases hbl:listed.getD i false with
         | false=>rfl
         | true=>rw[(hl' i).2 (.inl hbl)] at h6; cases h6
        obtain⟨p,hp,rfl⟩:=(hun i hi).1 h7
        refine⟨p,(memR p).2 ⟨hp,fun hpa=> ?_⟩,rfl⟩
        rw[(hl' p.1).2 (.inr ⟨p,hpa,rfl⟩)] at h6
        cases h6
       ·rintro ⟨p,hp,rfl⟩
        obtain⟨hp1,hp2⟩:=(memR p).1 hp
        cases hbl:listed'.getD p.1 false with
        | false=>rfl
        | true=>
          exfalso
          rcases(hl' p.1).1 hbl with h7 | ⟨q,hq,e⟩
          ·rw[(hun p.1 hi).2 ⟨p,hp1,rfl⟩] at h7; cases h7
          ·exact hp2 (idxT ((memA q).1 hq).1 hp1 e▸hq)
      have hciR:(ci,co)∈R:=(memR _).2 ⟨hmem,fun hpa=>((memA _).1 hpa).2.1.1 rfl⟩
      have huR:u∈R:=(memR _).2 ⟨humem,fun hpa=>((memA _).1 hpa).2.2.1 rfl⟩
      have hunc:listed'.getD ci false=false:=(left ci hcil).2 ⟨_,hciR,rfl⟩
      have hunu:listed'.getD u.1 false=false:=(left u.1 huil).2 ⟨_,huR,rfl⟩
      have notB:∀i,listed'.getD i false=false→i<ops.size→i≠ci→i≠u.1→∀o,ops[i]? =some o→¬∀e∈o.after,Region.binds .any e=true→listed'.getD e.on false=true:=by
       intro i hu hil hne hneu o ho hall
       obtain⟨p,hp,rfl⟩:=(left i hil).1 hu
       obtain⟨hp1,hp2⟩:=(memR p).1 hp
       have bad:∀c,bp (av ops) p.1 c=true→listed'.getD c false=false→False:=fun c hb3 hc3=>by
        have:=cM _ _ hb3 (fun i=>listed'.getD i false) hc' (fun o' ho2 e he hb2=>by
         rw[ho] at ho2; cases ho2
         exact hall e he hb2)
        (try dsimp only at this)
        rw[hc3] at this; cases this
       cases b1:bp (av ops) p.1 ci with
       | true=>exact bad ci b1 hunc
       | false=>
         cases b2:bp (av ops) p.1 u.1 with
         | true=>exact bad u.1 b2 hunu
         | false=>exact hp2 ((memA p).2 ⟨hp1,⟨hne,b1⟩,hneu,b2⟩)
      obtain⟨f,rfl⟩:∃f,fuel'=f+1:=by
       cases fuel' with
       | zero=>have:=ia (ops:=ops) hs' hcil hunc; omega
       | succ f=>exact⟨f,rfl⟩
      have turn:∀{ρ'},Ag kw'.vk.length ρ ρ'→At cx ρ' n X W0 s' ((sI s' kw').J j') a' w'∧Good sp cx.sm ρ' (kw'.head [])∧Nx kw' (kw'.head []) ρ ρ' I I:=fun {ρ'} hag=>
       ⟨⟨gc hseg.2 (rP hag) hat.rel,hat.len,hat.own⟩,gj g1 hag trivial,⟨hag,fun _ _=>rfl,by simp[Kw.head],by simp[Kw.head]⟩⟩
      have hget:∀c,c<ops.size→∀k,(listed'.setIfInBounds c true).getD k false=if k=c then true else listed'.getD k false:=by
       intro c hcl k
       rw[Array.getD_eq_getD_getElem?,Array.getElem?_setIfInBounds]
       by_cases hk:k=c
       ·subst hk; simp[hs',hcl]
       ·have hik:¬c=k:=fun e=>hk e.symm
        simp[hk,hik,Array.getD_eq_getD_getElem?]
      have again:∀c,c<ops.size→∀i,i<ops.size→((listed'.setIfInBounds c true).getD i false=false↔∃p∈R.filter fun p=>!Nat.beq p.1 c,p.1=i):=by
       intro c hcl i hi
       rw[hget c hcl]
       split
       ·rename_i e
        subst e
        refine⟨fun h=>(by cases h),fun⟨p,hp,e⟩=> ?_⟩
        have:=(List.mem_filter.1 hp).2
        rw[e] at this
        simp at this
       ·rename_i hne
        rw[left i hi]
        constructor
        ·rintro ⟨p,hp,rfl⟩
         refine⟨p,List.mem_filter.2 ⟨hp,?_⟩,rfl⟩
         cases hb2:Nat.beq p.1 c with
         | false=>rfl
         | true=>exact absurd (Nat.eq_of_beq_eq_true hb2) hne
        ·rintro ⟨p,hp,rfl⟩
         exact⟨p,(List.mem_filter.1 hp).1,rfl⟩
      have rec_:∀(c:Nat) (oc:Oper),ops[c]? =some oc→listed'.getD c false=false→(∀e∈oc.after,Region.binds .any e=true→listed'.getD e.on false=true)→∀(ρ1:Env) (kw1:Kw),Nx kw' kw1 ρ ρ1 I I→∀s2 kw2 ρ2 I2 j2 a2 w2,(regD cl cx ops (av ops) m (R.filter fun p=>!Nat.beq p.1 c) s2 kw2 k).holds sp G ρ2 I2→Good sp cx.sm ρ2 kw2→Nx kw1 kw2 ρ1 ρ2 I I2→At cx ρ2 n X W0 s2 j2 a2 w2→wpAnyIn (Fw ro) 0 P .any ops Q f (listed'.setIfInBounds c true) a2 w2:=by
       intro c oc hoc hunl hall ρ1 kw1 hnx s2 kw2 ρ2 I2 j2 a2 w2 q1 q2 q3 q4
       have hcl:c<ops.size:=(Array.getElem?_eq_some_iff.1 hoc).1
       exact ih _ s2 kw2 k ρ2 I2 (listed'.setIfInBounds c true) j2 a2 w2 q1 q2 q4 (fun p hp=>hop p ((memR p).1 (List.mem_filter.1 hp).1).1) (ndR.sublist (List.Sublist.map _ List.filter_sublist)) (by simp[hs']) (ib hs' hoc hc' hall) (again c hcl)
        (fun s3 kw3 ρ3 I3 j3 a3 w3 p1 p2 p3 p4=>hK s3 kw3 ρ3 I3 j3 a3 w3 p1 p2 ((Nx.of l1 _ _).trans (hnx.trans (q3.trans p3))) p4) f (by have:=ia (ops:=ops) hs' hcl hunl; omega)
      obtain⟨⟨ρa,ha1,ha2⟩,ρb,hb1,hb2⟩:=h1
      refine⟨fun hnil=> ?_,fun i hi=> ?_⟩
      ·exfalso
       have key:∀(k:Nat),k<ops.size→listed'.getD k false=false→False:=by
        intro k
        induction k using Nat.strongRecOn with
        | _ k ihk=>
          intro hkl hku
          obtain⟨o,ho⟩:∃o,ops[k]? =some o:=⟨ops[k],Array.getElem?_eq_getElem hkl⟩
          have:k∈Region.ready .any ops listed':=by
           rw[mem_ready]
           refine⟨by rw[gd k hkl]; exact hku,o,ho,fun e he hb2=> ?_⟩
           have hlt:=xA hb ho e he hb2
           cases hbl:listed'.getD e.on false with
           | true=>rfl
           | false=>exact(ihk e.on hlt (Nat.lt_trans hlt hkl) hbl).elim
          rw[hnil] at this
          cases this
       exact key ci hcil hunc
      ·obtain⟨hu,o,ho,hall⟩:=mem_ready.1 hi
       have hil:=(Array.getElem?_eq_some_iff.1 ho).1
       rw[gd i hil] at hu
       by_cases hne:i=ci
       ·subst hne
        rw[hco] at ho; cases ho
        obtain⟨t1,t2,t3⟩:=turn hb1
        exact qd hT hS hkeys hcl hco hb2 t2 t1 (fun s2 kw2 ρ2 I2 j2 a2 w2 q1 q2 q3 q4=>rec_ i _ hco hunc hall ρb _ t3 s2 kw2 ρ2 I2 j2 a2 w2 q1 q2 q3 q4)
       ·by_cases hneu:i=u.1
        ·subst hneu
         rw[huo] at ho; cases ho
         obtain⟨t1,t2,t3⟩:=turn ha1
         obtain⟨rs2,s2,kw2,m1,m2,m3,m4,m5,m6,m7⟩:=ed (P:=P) (base:=W0.heap.size) (ops:=ops) hT hS hkeys _ s' _ _ ha2 t2 t1.le
         obtain⟨r2,hr2⟩:∃r2,rs2=[r2]:=by
          have:=congrArg List.length m4
          simp only[List.length_map,List.length_singleton] at this
          exact List.length_eq_one_iff.1 this
         ·subst hr2
          have m8:r2.o=u.2:=by simpa using m4
          have m9:=m7 0 r2 rfl
          rw[t1.own] at m9
          refine ey t1.rel m9 (by rw[m8]; exact huo) (fun j2 a2 w2 hrel=> ?_)
          exact rec_ u.1 _ huo hunu hall ρa _ t3 s2 kw2 ρa I j2 a2 w2 m1 m2 (.of m3 _ _) ⟨by rw[m5]; exact hrel,by rw[m6.1]; exact t1.len,by rw[m6.2]; exact t1.own⟩
        ·exact absurd hall (notB i hu hil hne hneu o ho)
    ·exact h1.elim
   simp only[regD] at h
   split at h
   ·
    obtain⟨rs,s',kw',h1,g1,l1,h2,h3,h4,h5⟩:=ed (P:=P) (base:=W0.heap.size) hT hS hkeys (todo.map (·.2)) s kw _ h hg hr.le
    split at h1
    ·rename_i hseg
     refine part todo [] rs s' kw' (fun p hp=>hp) hnd (fun p hp=>.inl hp) l1 h2 h3 h4 h5 hseg (fun listed' j' a' w' hs' hc' hl' hat fuel' _=> ?_)
     refine wpAnyIn_done ?_ (hK s' kw' ρ I j' a' w' h1 g1 (.of l1 _ _) hat) fuel'
     cases hrd:Region.ready .any ops listed' with
     | nil=>rfl
     | cons i l=>
       exfalso
       have hi:i∈Region.ready .any ops listed':=by rw[hrd]; exact List.mem_cons_self
       obtain⟨hu,o,ho,_⟩:=mem_ready.1 hi
       have hil:=(Array.getElem?_eq_some_iff.1 ho).1
       have:listed'.getD i true=listed'.getD i false:=by
        rw[Array.getD_eq_getD_getElem?,Array.getD_eq_getD_getElem?,Array.getElem?_eq_getElem (by omega)]; rfl
       rw[this] at hu
       have h6:listed'.getD i false=true:=by
        cases hbl:listed.getD i false with
        | true=>exact(hl' i).2 (.inl hbl)
        | false=>exact(hl' i).2 (.inr ((hun i hil).1 hbl))
       rw[h6] at hu; cases hu
    ·exact h1.elim
   ·rename_i ci co hbar
    have hmem:=oJ hbar
    have hco:=hop _ hmem
    split at h
    rotate_left
    ·
     rename_i u hfind
     exact both hmem hco hfind h
    obtain⟨rs,s',kw',h1,g1,l1,h2,h3,h4,h5⟩:=ed (P:=P) (base:=W0.heap.size) hT hS hkeys _ s kw _ h hg hr.le
    split at h1
    ·rename_i hseg
     have idxT:∀{p q:Nat×Oper},p∈todo→q∈todo→p.1=q.1→p=q:=by
      intro p q hp hq e
      have h6:=hop p hp
      have h7:=hop q hq
      rw[e,h7] at h6
      exact Prod.ext e (Option.some.inj h6).symm
     refine part _ _ rs s' kw' (fun p hp=>(List.mem_filter.1 hp).1) (hnd.sublist (List.Sublist.map _ List.filter_sublist)) (fun p hp=> ?_) l1 h2 h3 h4 h5 hseg (fun listed' j' a' w' hs' hc' hl' hat fuel' hf'=> ?_)
     ·by_cases e1:p.1=ci
      ·exact .inr ⟨(ci,co),List.mem_cons_self,e1.symm⟩
      ·have e2:Nat.beq p.1 ci=false:=by
        cases hb2:Nat.beq p.1 ci with
        | false=>rfl
        | true=>exact absurd (Nat.eq_of_beq_eq_true hb2) e1
       cases hbit:bp (av ops) p.1 ci with
       | false=>exact .inl (List.mem_filter.2 ⟨hp,by simp[e2,hbit]⟩)
       | true=>exact .inr ⟨p,List.mem_cons_of_mem _ (List.mem_filter.2 ⟨hp,by simp[e2,hbit]⟩),rfl⟩
     ·
      have hcil:ci<ops.size:=(Array.getElem?_eq_some_iff.1 hco).1
      have gd:∀i,i<ops.size→listed'.getD i true=listed'.getD i false:=fun i hi=>by
       rw[Array.getD_eq_getD_getElem?,Array.getD_eq_getD_getElem?,Array.getElem?_eq_getElem (by omega)]; rfl
      have left:∀i,i<ops.size→(listed'.getD i false=false↔(i=ci∨∃p∈todo.filter fun p=>bp (av ops) p.1 ci &&!Nat.beq p.1 ci,p.1=i)):=by
       intro i hi
       constructor
       ·intro h6
        have h7:listed.getD i false=false:=by
         cases hbl:listed.getD i false with
         | false=>rfl
         | true=>rw[(hl' i).2 (.inl hbl)] at h6; cases h6
        obtain⟨p,hp,rfl⟩:=(hun i hi).1 h7
        by_cases e1:p.1=ci
        ·exact .inl e1
        ·right
         have e2:Nat.beq p.1 ci=false:=by
          cases hb2:Nat.beq p.1 ci with
          | false=>rfl
          | true=>exact absurd (Nat.eq_of_beq_eq_true hb2) e1
         cases hbit:bp (av ops) p.1 ci with
         | true=>exact⟨p,List.mem_filter.2 ⟨hp,by simp[e2,hbit]⟩,rfl⟩
         | false=>
           exfalso
           have:=(hl' p.1).2 (.inr ⟨p,List.mem_filter.2 ⟨hp,by simp[e2,hbit]⟩,rfl⟩)
           rw[this] at h6; cases h6
       ·intro h6
        cases hbl:listed'.getD i false with
        | false=>rfl
        | true=>
          exfalso
          rcases(hl' i).1 hbl with h7 | ⟨p,hp,e⟩
          ·have hin:∃p∈todo,p.1=i:=by
            rcases h6 with rfl | ⟨p,hp,e⟩
            ·exact⟨_,hmem,rfl⟩
            ·exact⟨p,(List.mem_filter.1 hp).1,e⟩
           rw[(hun i hi).2 hin] at h7; cases h7
          ·obtain⟨hp1,hp2⟩:=List.mem_filter.1 hp
           rcases h6 with rfl | ⟨q,hq,e2⟩
           ·rw[e] at hp2; simp at hp2
           ·obtain⟨hq1,hq2⟩:=List.mem_filter.1 hq
            have:=idxT hp1 hq1 (e.trans e2.symm)
            subst this
            simp only[Bool.and_eq_true,Bool.not_eq_true'] at hp2 hq2
            rw[hp2.2] at hq2
            exact absurd hq2.1 (by simp)
      have hunc:listed'.getD ci false=false:=(left ci hcil).2 (.inl rfl)
      have notB:∀i,listed'.getD i false=false→i<ops.size→i≠ci→∀o,ops[i]? =some o→¬∀e∈o.after,Region.binds .any e=true→listed'.getD e.on false=true:=by
       intro i hu hil hne o ho hall
       rcases(left i hil).1 hu with h6 | ⟨p,hp,rfl⟩
       ·exact hne h6
       ·have h7:=(List.mem_filter.1 hp).2
        simp only[Bool.and_eq_true] at h7
        have:=cM _ _ h7.1 (fun i=>listed'.getD i false) hc' (fun o' ho2 e he hb2=>by
         rw[ho] at ho2; cases ho2
         exact hall e he hb2)
        (try dsimp only at this)
        rw[hunc] at this; cases this
      obtain⟨f,rfl⟩:∃f,fuel'=f+1:=by
       cases fuel' with
       | zero=>have:=ia (ops:=ops) hs' hcil hunc; omega
       | succ f=>exact⟨f,rfl⟩
      have step:wpOpIn (Fw ro) 0 P ops Q ci (wpAnyIn (Fw ro) 0 P .any ops Q f (listed'.setIfInBounds ci true)) a' w'∨¬(∀e∈co.after,Region.binds .any e=true→listed'.getD e.on false=true):=by
       by_cases hall:∀e∈co.after,Region.binds .any e=true→listed'.getD e.on false=true
       ·left
        refine qd hT hS hkeys hcl hco h1 g1 hat (fun s2 kw2 ρ2 I2 j2 a2 w2 q1 q2 q3 q4=> ?_)
        have hget:∀k,(listed'.setIfInBounds ci true).getD k false=if k=ci then true else listed'.getD k false:=by
         intro k
         rw[Array.getD_eq_getD_getElem?,Array.getElem?_setIfInBounds]
         by_cases hk:k=ci
         ·subst hk; simp[hs',hcil]
         ·have hik:¬ci=k:=fun e=>hk e.symm
          simp[hk,hik,Array.getD_eq_getD_getElem?]
        refine ih _ s2 kw2 k ρ2 I2 (listed'.setIfInBounds ci true) j2 a2 w2 q1 q2 q4 (fun p hp=>hop p (List.mem_filter.1 hp).1) (hnd.sublist (List.Sublist.map _ List.filter_sublist)) (by simp[hs']) (ib hs' hco hc' hall) (fun i hi=> ?_)
         (fun s3 kw3 ρ3 I3 j3 a3 w3 p1 p2 p3 p4=>hK s3 kw3 ρ3 I3 j3 a3 w3 p1 p2 ((Nx.of l1 _ _).trans (q3.trans p3)) p4) f (by have:=ia (ops:=ops) hs' hcil hunc; omega)
        rw[hget]
        split
        ·rename_i e
         subst e
         refine⟨fun h=>(by cases h),fun⟨p,hp,e⟩=> ?_⟩
         have:=(List.mem_filter.1 hp).2
         rw[e] at this
         simp at this
        ·rename_i hne
         rw[left i hi]
         exact⟨fun h=>h.resolve_left hne,.inr⟩
       ·exact .inr hall
      refine⟨fun hnil=> ?_,fun i hi=> ?_⟩
      ·exfalso
       have key:∀(k:Nat),k<ops.size→listed'.getD k false=false→False:=by
        intro k
        induction k using Nat.strongRecOn with
        | _ k ihk=>
          intro hkl hku
          obtain⟨o,ho⟩:∃o,ops[k]? =some o:=⟨ops[k],Array.getElem?_eq_getElem hkl⟩
          have:k∈Region.ready .any ops listed':=by
           rw[mem_ready]
           refine⟨by rw[gd k hkl]; exact hku,o,ho,fun e he hb2=> ?_⟩
           have hlt:=xA hb ho e he hb2
           cases hbl:listed'.getD e.on false with
           | true=>rfl
           | false=>exact(ihk e.on hlt (Nat.lt_trans hlt hkl) hbl).elim
          rw[hnil] at this
          cases this
       exact key ci hcil hunc
      ·obtain⟨hu,o,ho,hall⟩:=mem_ready.1 hi
       have hil:=(Array.getElem?_eq_some_iff.1 ho).1
       rw[gd i hil] at hu
       by_cases hne:i=ci
       ·subst hne
        rw[hco] at ho; cases ho
        rcases step with h6 | h6
        ·exact h6
        ·exact absurd hall h6
       ·exact absurd hall (notB i hu hil hne o ho)
    ·exact h1.elim
end
end Go.Proofs.Ytghiofgomcihcaa
