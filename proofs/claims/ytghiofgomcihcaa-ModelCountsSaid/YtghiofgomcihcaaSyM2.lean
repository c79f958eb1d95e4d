import Derived.Test.YtghiofgomcihcaaSyM
import Derived.Lib.LazyBuf
import Derived.Test.YtghiofgomcihcaaSyG5
set_option linter.unusedVariables false
set_option linter.unusedSimpArgs false
namespace Go.Proofs.Ytghiofgomcihcaa
open Go.ChangeMaps (setBlock)
open Go Go.RowKit
section
variable {P:Program} {sp:Spec} {ρ:Env} {G:Env→E→Prop} {I:Nat→List Dt→Prop} {cx:Cx} {cl:ClK} {n:Nat} {X:List Value} {W0:Wb} {ops:Array Oper} {ro:Option Nat} {ry:Option RfS}
theorem At.ev {s:St} {j:J} {a:Act} {w:World} (h:At cx ρ n X W0 s j a w) {x:Operand} {v:V} (hx:evS s.n s.tmps x=some v):v.den ρ j=some (a.eval x):=by
 refine h.rel.eval (x:=x) ?_
 have:=vB s s.le x
 rw[h.own] at this hx
 rw[this]; exact hx
theorem At.le {s:St} {j:J} {a:Act} {w:World} (h:At cx ρ n X W0 s j a w):s.n≤s.tmps.length:=s.le
theorem fT {j:J}:∀{l:List (Option (Bool×Nat×Nat))} {vs:List Value},bT j l=some vs→vs.length=(l.map capV).length∧∀(i:Nat) x,(l.map capV)[i]? =some x→∃u,vs[i]? =some u∧x.den ρ j=some u
 | [],vs,h=>by cases h; exact⟨rfl,fun i x hx=>by simp at hx⟩
 | c::l,vs,h=>by
   simp only[bT] at h
   cases hc:ptrV j c with
   | none=>rw[hc] at h; cases h
   | some v=>
     cases hl:bT j l with
     | none=>rw[hc,hl] at h; cases h
     | some us=>
       rw[hc,hl] at h
       cases h
       obtain⟨h1,h2⟩:=fT hl
       refine⟨by simp[h1],fun i x hx=> ?_⟩
       cases i with
       | zero=>
         simp only[List.map_cons,List.getElem?_cons_zero,Option.some.injEq] at hx
         subst hx
         refine⟨v,rfl,?_⟩
         match c,hc with
         | none,hc=>exact hc
         | some (true,b,o),hc=>exact hc
         | some (false,b,o),hc=>exact hc
       | succ i=>exact h2 i x (by simpa using hx)
theorem ir {j:J} {xs ys:List V} {us vs:List Value} (h1:us.length=xs.length) (h2:∀(i:Nat) x,xs[i]? =some x→∃u,us[i]? =some u∧x.den ρ j=some u) (h3:∀(i:Nat) x,ys[i]? =some x→∃u,vs[i]? =some u∧x.den ρ j=some u):
  ∀(i:Nat) x,(xs++ys)[i]? =some x→∃u,(us++vs)[i]? =some u∧x.den ρ j=some u:=by
 intro i x hx
 rcases Nat.lt_or_ge i xs.length with hlt | hge
 ·rw[List.getElem?_append_left hlt] at hx
  rw[List.getElem?_append_left (by omega)]
  exact h2 i x hx
 ·rw[List.getElem?_append_right hge] at hx
  rw[List.getElem?_append_right (by omega),h1]
  exact h3 _ x hx
theorem vh (hcl:ClOk P sp G cx ry cl X W0) {o:Oper} {g:Nat} {args:List V} {s:St} {kw:Kw} {k:St→Kw→Tr} {j:J} {a:Act} {w:World} {vals:List Value} (hgb:g<yB) (h:(inlK cl o g args s kw k).holds sp G ρ I) (hg:Good sp cx.sm ρ kw) (hr:At cx ρ n X W0 s j a w)
  (hl:vals.length=args.length) (hd:∀(i:Nat) x,args[i]? =some x→∃u,vals[i]? =some u∧x.den ρ j=some u) {K:Act→World→Prop}
  (hK:∀s' kw' ρ' I' j' a' w',(k s' kw').holds sp G ρ' I'→Good sp cx.sm ρ' kw'→Nx kw kw' ρ ρ' I I'→At cx ρ' n X W0 s' j' a' w'→K a' w'):
  (callFunc g vals.toArray).run P w=.ok (.enter g vals.toArray) w∧Calls P g vals.toArray w fun e w'=>∃u,e=.returned u∧K (a.put o.dst u) w':=by
 refine hcl.1.call g args s kw _ (fun u w'=>K (a.put o.dst u) w') ρ I n X W0 j a w vals hgb h hg hr (hcl.2.more _) hl hd (fun v s' kw' ρ' I' j' w' u h' hg' ha hI hlv hvk hv hr'=> ?_)
 have hnx:Nx kw kw' ρ ρ' I I':=⟨ha,hI,hlv,hvk⟩
 split at h'
 ·rename_i hdst
  rw[hdst]
  exact hK s' kw' ρ' I' j' _ w' h' hg' hnx hr'
 ·rename_i d hdst
  split at h'
  ·rename_i hlt
   have hlt':d<s'.n:=by simpa[Nat.blt_eq] using hlt
   refine hK _ kw' ρ' I' j' _ w' h' hg' hnx ⟨?_,hr'.len,hr'.own⟩
   have h1:=hr'.rel.put (dst:=o.dst) hv (fun d' hd'=>by rw[hdst] at hd'; cases hd'; rw[←hr'.own]; exact hlt')
   rw[hdst] at h1 ⊢
   have e:(St.mk (s'.tmps.set d v) s'.heap).fs=s'.fs.put (some d) v:=by
    refine FS.ext' (fun t=> ?_) (fun _=>rfl) (fun _=>rfl) (fun _=>rfl)
    simp only[FS.put,St.fs,fsOf,TM.get_set s'.tmps v hlt']
    by_cases ht:d=t
    ·subst ht; simp
    ·simp[ht]
   rw[e]
   exact h1
  ·exact h'.elim
theorem zV (hcl:ClOk P sp G cx ry cl X W0) {o:Oper} {id l:Nat} {args:List V} {s:St} {kw:Kw} {k:St→Kw→Tr} {j:J} {a:Act} {w:World} {vals:List Value} (h:(inlK cl o (yB+id) args s kw k).holds sp G ρ I) (hg:Good sp cx.sm ρ kw) (hr:At cx ρ n X W0 s j a w)
  (hl:vals.length=args.length) (hyl:j.g.y id=some l) (hd:∀(i:Nat) x,args[i]? =some x→∃u,vals[i]? =some u∧x.den ρ j=some u) {K:Act→World→Prop}
  (hK:∀s' kw' ρ' I' j' a' w',(k s' kw').holds sp G ρ' I'→Good sp cx.sm ρ' kw'→Nx kw kw' ρ ρ' I I'→At cx ρ' n X W0 s' j' a' w'→K a' w'):
  ∃f tmps assign body,(Instr.yield l vals.toArray).run P w=.ok (.round l f tmps assign body) w∧∀ro,RoundIn (Fw ro) 0 P l f tmps assign body w fun e w'=>∃u,e=.returned u∧K (a.put o.dst u) w':=by
 refine hcl.1.yld id args s kw _ (fun u w'=>K (a.put o.dst u) w') ρ I n X W0 j a w vals l h hg hr hcl.2 hyl hl hd (fun v s' kw' ρ' I' j' w' u h' hg' ha hI hlv hvk hv hr'=> ?_)
 have hnx:Nx kw kw' ρ ρ' I I':=⟨ha,hI,hlv,hvk⟩
 split at h'
 ·rename_i hdst
  rw[hdst]
  exact hK s' kw' ρ' I' j' _ w' h' hg' hnx hr'
 ·rename_i d hdst
  split at h'
  ·rename_i hlt
   have hlt':d<s'.n:=by simpa[Nat.blt_eq] using hlt
   refine hK _ kw' ρ' I' j' _ w' h' hg' hnx ⟨?_,hr'.len,hr'.own⟩
   have h1:=hr'.rel.put (dst:=o.dst) hv (fun d' hd'=>by rw[hdst] at hd'; cases hd'; rw[←hr'.own]; exact hlt')
   rw[hdst] at h1 ⊢
   have e:(St.mk (s'.tmps.set d v) s'.heap).fs=s'.fs.put (some d) v:=by
    refine FS.ext' (fun t=> ?_) (fun _=>rfl) (fun _=>rfl) (fun _=>rfl)
    simp only[FS.put,St.fs,fsOf,TM.get_set s'.tmps v hlt']
    by_cases ht:d=t
    ·subst ht; simp
    ·simp[ht]
   rw[e]
   exact h1
  ·exact h'.elim
theorem zK:∀(N:Nat) (l:List Nat),l.Nodup→(∀x∈l,x<N)→l.length≤N
 | 0,l,_,h=>by
   cases l with
   | nil=>simp
   | cons x l=>exact absurd (h x List.mem_cons_self) (by omega)
 | N+1,l,hn,h=>by
   by_cases hm:N∈l
   ·have h1:=zK N (l.erase N) (hn.erase N) (fun x hx=>by
     have h2:=(hn.mem_erase_iff).1 hx
     have:=h x h2.2
     have:=h2.1
     omega)
    rw[List.length_erase_of_mem hm] at h1
    omega
   ·have h1:=zK N l hn (fun x hx=>by
     have:=h x hx
     have:x≠N:=fun e=>hm (e▸hx)
     omega)
    omega
theorem yq:∀(N:Nat) (l:List Nat),(∀x,x<N→x∈l)→N≤l.length
 | 0,_,_=>by simp
 | N+1,l,h=>by
   have hm:=h N (by omega)
   have h1:=yq N (l.erase N) (fun x hx=>(List.mem_erase_of_ne (by omega)).2 (h x (by omega)))
   rw[List.length_erase_of_mem hm] at h1
   have:=List.length_pos_of_mem hm
   omega
theorem rP {L:List (List Int)} (h1:RowsIn [some .i64] L) (h2:L.Nodup) (h3:∀x∈L,0≤x.getD 0 0):(idxs L).Nodup:=by
 unfold idxs
 rw[List.nodup_iff_pairwise_ne,List.pairwise_map]
 refine(List.nodup_iff_pairwise_ne.1 h2).imp_of_mem fun {a b} ha hb hne e=>hne ?_
 have one:∀x∈L,x=[x.getD 0 0]:=fun x hx=>by
  have:=aX (h1.row x hx)
  match x,this with
  | [y],_=>rfl
 have:=h3 a ha
 have:=h3 b hb
 rw[one a ha,one b hb]
 congr 1
 omega
theorem lO {v0:Nat} {ρ ρ':Env} (h:Ag v0 ρ ρ'):Giv v0 [] [] ρ ρ':=⟨h,fun m k t hk=>by simp at hk,fun m t hk=>by simp at hk,fun m ks t hk=>by simp at hk⟩
theorem qp {es:List MapEntry} {seen:List Nat} {e:MapEntry}:e∈(leftOf es.toArray seen.toArray).toList↔e∈es∧e.born ∉ seen:=by
 unfold leftOf
 simp
theorem xJ {s:St} {kw:Kw} {j:J} {id:Nat} {q:RowOb} (h:rwS s.heap id=some q):((eL s kw).J j).s id=j.s id:=by
 have h1:s.heap[id]? =some (.row q):=by
  unfold rwS at h
  split at h
  ·rename_i r hr; cases h; exact hr
  ·cases h
 have h2:(eL s kw).sig id=some (some id):=by
  have h3:=(List.getElem?_eq_some_iff.1 h1).1
  unfold Mt.sig eL
  simp only[h1]
  rw[if_pos h3]
 simp only[Mt.J,h2]
theorem uM {ρ:Env} {j:J} (b:Bool) (cs:List C) (vals:List Value) (hd:denL ρ j cs=some vals) (hl:b=false→cs.length=1):den0 ρ j (b,cs)=some (aO b vals):=by
 cases b with
 | true=>simp[den0,hd,aO]
 | false=>
   have:=hl rfl
   match cs,this with
   | [c],_=>
     simp only[denL] at hd
     cases hc:c.den ρ j with
     | none=>rw[hc] at hd; cases hd
     | some v=>rw[hc] at hd; cases hd; simp[den0,hc,aO]
theorem aap {o:Oper} {x:Operand} {id mid:Nat} {s:St} {kw:Kw} {k:St→Kw→Tr} {j:J} {a:Act} {w:World} (hop:o.op=.next x false) (hx:(V.one (.itp id mid)).den ρ j=some (a.eval x)) (h:(anyK cx o id mid s kw k).holds sp G ρ I) (hg:Good sp cx.sm ρ kw) (hr:At cx ρ n X W0 s j a w) {K:Act→World→Prop} {Q:Exit→Act→World→Prop}
  (hK:∀s' kw' ρ' I' j' a' w',(k s' kw').holds sp G ρ' I'→Good sp cx.sm ρ' kw'→Nx kw kw' ρ ρ' I I'→At cx ρ' n X W0 s' j' a' w'→K a' w'):o.wp P a w K Q:=by
 unfold anyK at h
 split at h
 ·rename_i q r hq hrr
  split at h
  ·rename_i mid' n' nk ka va hqk hrk
   split at h
   ·rename_i hc
    simp only[Bool.and_eq_true,Bool.or_eq_true,decide_eq_true_eq] at hc
    obtain⟨⟨hn,hnk,hka,hva⟩,hok⟩:=hc
    have look:∀(ρ1:Env) (j1:J),At cx ρ1 n X W0 s j1 a w→(V.one (.itp id mid)).den ρ1 j1=some (a.eval x)→∃s0 gi g,j1.s id=some s0∧s0.a=some ⟨gi,0,none⟩∧s0.c=1∧W0.heap.size≤gi∧a.eval x=.pointer (some ⟨gi,0,none⟩)∧
      w.heap[gi]? =some (.mapIter (some g) (r.l.R ρ1).length (idxs (q.l.R ρ1)).toArray (r.l.R ρ1).length)∧w.heap[g]? =some (.map (aR r.ks nk ka va 0 (r.l.R ρ1)).toArray (r.l.R ρ1).length)∧s0.n=g∧n'.I ρ1=((r.l.R ρ1).length:Int)∧RowsIn r.ks (r.l.R ρ1)∧q.own=true∧q.ks=[some .i64]∧RowsIn [some .i64] (q.l.R ρ1)∧(q.l.R ρ1).Nodup∧∀y∈q.l.R ρ1,0≤y.getD 0 0∧y.getD 0 0<n'.I ρ1:=by
     intro ρ1 j1 hr1 hx1
     obtain⟨s0,m0,hs0,hm0,hsm,hv⟩:=nE (ρ:=ρ1) hx1
     have q1:s.fs.row id=some (some q):=cA (by rw[dg]; exact hq)
     have r1:s.fs.row mid=some (some r):=cA (by rw[dg]; exact hrr)
     obtain⟨s1,h1,h2⟩:=hr1.rel.row id q q1
     rw[hs0] at h1; cases h1
     obtain⟨s2,h3,h4⟩:=hr1.rel.row mid r r1
     rw[hm0] at h3; cases h3
     obtain⟨g,m1,m2,m3,m4,m5,m6⟩:=h4.map hrk
     have hd:=h2.2.1 (by rw[hqk]; rfl)
     obtain⟨gi,ob,i1,i2,i3,i4⟩:=hd.at'
     unfold obOf at i4
     rw[hqk] at i4
     obtain⟨hks,rfl,hnd,hin⟩:=i4
     rw[hsm] at m1; cases m1
     have e0:n'.I ρ1=((r.l.R ρ1).length:Int):=by rw[E.same_eq hn,ay]
     have e1:(n'.I ρ1).toNat=(r.l.R ρ1).length:=by rw[e0]; simp
     rw[e1] at i3
     refine⟨s0,gi,s0.n,hs0,i1,hd.c,i2,?_,i3,m3,rfl,e0,m4,hd.own,hks,by rw[←hks]; exact hd.rows,hnd,hin⟩
     rw[hv,SV.pv,i1]; rfl
    obtain⟨s0,gi,g,b1,b2,b3,b4,b5,b6,b7,b8,b9,b10,b11,b12,b13,b14,b15⟩:=look ρ j hr hx
    have hold:∀e∈(aR r.ks nk ka va 0 (r.l.R ρ)).toArray.toList,e.born<(r.l.R ρ).length:=by
     intro e he
     obtain⟨m,hm⟩:=List.getElem?_of_mem (show e∈aR r.ks nk ka va 0 (r.l.R ρ) from by simpa using he)
     rw[bh] at hm
     cases hL:(r.l.R ρ)[m]? with
     | none=>rw[hL] at hm; cases hm
     | some y=>
       rw[hL] at hm
       simp only[Option.map_some,Option.some.injEq] at hm
       rw[←hm]
       have:=(List.getElem?_eq_some_iff.1 hL).1
       show 0+m<_
       omega
    have hnodup:=rP b13 b14 (fun y hy=>(b15 y hy).1)
    have hlt:∀y∈idxs (q.l.R ρ),y<(r.l.R ρ).length:=by
     intro y hy
     unfold idxs at hy
     obtain⟨z,hz,rfl⟩:=List.mem_map.1 hy
     have:=b15 z hz
     omega
    have hlen:(idxs (q.l.R ρ)).length=(q.l.R ρ).length:=by simp[idxs]
    obtain⟨kw1,g1,q1,v1,l1⟩:=ak _ _ _ h hg
    rw[aA,ay,b9] at g1
    have hstep:=run_next_at (P:=P) w o.type gi g (r.l.R ρ).length (r.l.R ρ).length (idxs (q.l.R ρ)).toArray (aR r.ks nk ka va 0 (r.l.R ρ)).toArray (r.l.R ρ).length b6 b7 hold (Nat.le_refl _)
    have hex:∀v w',(Instr.next (.pointer (some ⟨gi,0,none⟩)) false o.type).run P w=.ok v w'→(execOp a.eval o).run P w=.ok (.value v) w':=by
     intro v w' hh
     simp only[execOp,hop,b5,Sem.run_bind,hh,Result.andThen_ok,Sem.run_pure]
    rcases hstep with⟨h0,hrun⟩ | ⟨e,he,w1,hw1,hrun⟩
    ·
     have hall:∀y,y<(r.l.R ρ).length→y∈idxs (q.l.R ρ):=by
      intro y hy
      refine Classical.byContradiction fun hni=> ?_
      have hme:entV r.ks nk ka va y ((r.l.R ρ)[y])∈aR r.ks nk ka va 0 (r.l.R ρ):=by
       refine List.mem_of_getElem? (i:=y) ?_
       rw[bh,List.getElem?_eq_getElem hy]
       simp
      have:=qp.2 ⟨hme,hni⟩
      rw[Array.mem_toList_iff] at this
      have:=Array.size_pos_of_mem this
      omega
     have hge:=yq _ _ hall
     rw[if_neg (by simp; omega)] at g1
     split at g1
     ·rename_i s' hs'
      obtain⟨e1,e2,e3,_,_,_⟩:=St.app_ok hr.le hs'
      refine bf (hex _ _ hrun) (hK s' kw1 ρ I j _ w g1 q1 (.of l1 _ _) ⟨?_,by rw[e2.1]; exact hr.len,by rw[e2.2]; exact hr.own⟩)
      rw[e1]
      exact hr.rel.put (by simp[V.den,aT,den0,C.den,E.B]) (fun d hd=>by rw[←hr.own]; exact e3 d hd)
     ·exact g1.elim
    ·
     have he':=qp.1 he
     obtain⟨m,hm⟩:=List.getElem?_of_mem he'.1
     rw[bh] at hm
     cases hL:(r.l.R ρ)[m]? with
     | none=>rw[hL] at hm; cases hm
     | some y=>
       rw[hL] at hm
       simp only[Option.map_some,Option.some.injEq,Nat.zero_add] at hm
       have hmlt:=(List.getElem?_eq_some_iff.1 hL).1
       have hmn:m ∉ idxs (q.l.R ρ):=by have:=he'.2; rw[←hm] at this; exact this
       have hcnt:(q.l.R ρ).length<(r.l.R ρ).length:=by
        have:=zK (r.l.R ρ).length (m::idxs (q.l.R ρ)) (List.nodup_cons.2 ⟨hmn,hnodup⟩) (fun z hz=>by
         rcases List.mem_cons.1 hz with rfl | hz
         ·exact hmlt
         ·exact hlt z hz)
        rw[List.length_cons,hlen] at this
        omega
       rw[if_pos (by simp; omega)] at g1
       have hmax:=b10.len
       obtain⟨ρ',ha,hz,hh⟩:=g1 (m:Int) (by rw[aC]; simp only[IntKind.min,IntKind.max,IntKind.signed,IntKind.bits]; simp[maxLen] at hmax ⊢; omega)
       rw[v1] at ha hz
       have hz0:=hz
       have hr':At cx ρ' n X W0 s ((eL s kw).J j) a w:=⟨dR hok (lO ha) hr.rel,hr.len,hr.own⟩
       have hx':(V.one (.itp id mid)).den ρ' ((eL s kw).J j)=some (a.eval x):=by
        obtain⟨t0,u0,t1,t2,t3,t4⟩:=nE (ρ:=ρ) hx
        show(C.itp id mid).den ρ' _=_
        simp only[C.den,xJ hq,xJ hrr,t1,t2,Option.bind_some,t3,if_true,t4]
       obtain⟨s0',gi',g',d1,d2,d3,d4,d5,d6,d7,d8,d9,d10,d11,d12,d13,d14,d15⟩:=look ρ' _ hr' hx'
       rw[b5] at d5
       simp only[Value.pointer.injEq,Option.some.injEq,Addr.mk.injEq,and_true] at d5
       subst d5
       rw[b6] at d6
       simp only[Option.some.injEq,Obj.mapIter.injEq] at d6
       obtain⟨f1,f2,f3,f4⟩:=d6
       subst f1
       have f3':idxs (q.l.R ρ)=idxs (q.l.R ρ'):=by simpa using f3
       rw[b7] at d7
       simp only[Option.some.injEq,Obj.map.injEq] at d7
       have f5:aR r.ks nk ka va 0 (r.l.R ρ)=aR r.ks nk ka va 0 (r.l.R ρ'):=by simpa using d7.1
       obtain⟨y',hy',hey⟩:∃y',(r.l.R ρ')[m]? =some y'∧e=entV r.ks nk ka va m y':=by
        have h1:(aR r.ks nk ka va 0 (r.l.R ρ))[m]? =some e:=by rw[bh,hL]; simp[hm]
        rw[f5,bh] at h1
        cases hL':(r.l.R ρ')[m]? with
        | none=>rw[hL'] at h1; cases h1
        | some y'=>rw[hL'] at h1; simp only[Option.map_some,Option.some.injEq,Nat.zero_add] at h1; exact⟨y',rfl,h1.symm⟩
       have hmlt':m<(r.l.R ρ').length:=(List.getElem?_eq_some_iff.1 hy').1
       have hni:m ∉ idxs (q.l.R ρ'):=f3'▸hmn
       have one:∀z∈q.l.R ρ',z=[z.getD 0 0]:=fun z hz=>by
        have:=aX (d13.row z hz)
        match z,this with
        | [y],_=>rfl
       have hne:∀z∈q.l.R ρ',z≠[(m:Int)]:=by
        intro z hz e
        apply hni
        unfold idxs
        refine List.mem_map.2 ⟨z,hz,?_⟩
        rw[e]; simp
       have hmix:mixI (q.l.R ρ') [(m:Int)]=((q.l.R ρ').length:Int):=by
        unfold mixI
        rw[List.findIdx_eq_length_of_false]
        intro z hz
        rw[beq_eq_false_iff_ne]
        intro e
        refine hne z hz ?_
        rw[one z hz] at e ⊢
        simpa using e
       have hlen2:(q.l.R ρ').length<(r.l.R ρ').length:=by
        have e1:(q.l.R ρ').length=(q.l.R ρ).length:=by
         have:=congrArg List.length f3'
         simp only[idxs,List.length_map] at this
         exact this.symm
        omega
       have hcond:(zJ q.l n' kw1.vk.length).B ρ'=true:=by
        have hz':ρ'.i kw1.vk.length=(m:Int):=by rw[v1]; exact hz
        simp only[zJ,E.B,E.I,E.L,hz',d9,hmix,ay]
        simp
        omega
       have hh':=hh hcond
       split at hh'
       ·rename_i s' hs'
        obtain⟨e1,e2,e3,_,_,_⟩:=St.app_ok hr.le hs'
        have hX:Ext w w1:=by
         rcases hw1 with rfl | rfl
         ·exact Ext.refl _
         ·exact(Ext.refl _).drew
        have hheap:w1.heap=w.heap:=by rcases hw1 with rfl | rfl<;>rfl
        have hgi:gi<w1.heap.size:=by rw[hheap]; exact(Array.getElem?_eq_some_iff.1 b6).1
        have hborn:e.born=m:=by rw[hey]; rfl
        have q1':s.fs.row id=some (some q):=cA (by rw[dg]; exact hq)
        have hrel:=(hr'.rel.more hX).set (id:=id) (s:=s0') (r:={q with l:=.lapp q.l (.cons (.var kw1.vk.length) .nil)}) (w':=setBlock w1 gi (.mapIter (some g) (r.l.R ρ).length ((idxs (q.l.R ρ)).toArray.push e.born) (r.l.R ρ).length)) ⟨⟨q,q1',d11⟩,d11⟩ d1 (by
         have:s0'.v.ownBlock=some gi:=by simp[SV.v,d2,Value.ownBlock]
         rw[this]; exact eE w1 gi _) (HdOk.row ⟨d11,⟨fun z hz=> ?_,?_⟩,d3,gi,_,d2,d4,iE hgi _,?_⟩ (by show q.kd.isHd=true; rw[hqk]; rfl))
        ·have hkey:=uM (ρ:=ρ') (j:=(eL s kw).J j) ka (cg r.l (.var kw1.vk.length) 0 (r.ks.take nk)) ((rowV r.ks y').take nk) (by
          rw[cW]
          simp only[E.I]
          rw[show ρ'.i kw1.vk.length=(m:Int) by rw[v1]; exact hz,Int.toNat_natCast,List.getD_eq_getElem?_getD,hy']
          simp only[Option.getD_some]
          rw[fX nk (d10.row y' (List.mem_of_getElem? hy'))]) (fun e=>by rw[bj,List.length_take]; have:=hka.elim (fun h1=>by rw[e] at h1; cases h1) Nat.eq_of_beq_eq_true; omega)
         have hval:=uM (ρ:=ρ') (j:=(eL s kw).J j) va (cg r.l (.var kw1.vk.length) nk (r.ks.drop nk)) ((rowV r.ks y').drop nk) (by
          rw[cW]
          simp only[E.I]
          rw[show ρ'.i kw1.vk.length=(m:Int) by rw[v1]; exact hz,Int.toNat_natCast,List.getD_eq_getElem?_getD,hy']
          simp only[Option.getD_some]
          rw[dy nk (d10.row y' (List.mem_of_getElem? hy'))]) (fun e=>by rw[bj]; exact hva.elim (fun h1=>by rw[e] at h1; cases h1) Nat.eq_of_beq_eq_true)
         refine bf (hex _ _ hrun) (hK s' _ ρ' I ((eL s kw).J j) _ _ hh' (dS q1 (by rw[v1]; exact ha) ⟨?_,trivial⟩) (.trans (.of l1 _ _) ⟨by rw[v1]; exact ha,fun _ _=>rfl,by simp[Kw.head],by simp[Kw.head]⟩) ⟨?_,by rw[e2.1]; exact hr.len,by rw[e2.2]; exact hr.own⟩)
         ·show inK .i64 (ρ'.i kw1.vk.length)=true
          rw[v1,hz,aC]
          simp only[IntKind.min,IntKind.max,IntKind.signed,IntKind.bits]; simp[maxLen] at hmax ⊢; omega
         ·rw[e1]
          refine hrel.put ?_ (fun d hd=>by rw[←hr.own]; exact e3 d hd)
          simp only[V.den,aT,hkey,hval,Option.map_some]
          rw[hey]
          rfl
        ·simp only[E.R,List.mem_append,List.mem_singleton] at hz
         show ah q.ks z=true
         rw[d12]
         rcases hz with hz | rfl
         ·exact d13.row z hz
         ·simp only[E.L,ah,Bool.and_true]
          show inK .i64 (ρ'.i kw1.vk.length)=true
          rw[v1,hz0,aC]
          simp only[IntKind.min,IntKind.max,IntKind.signed,IntKind.bits]; simp[maxLen] at hmax ⊢; omega
        ·simp only[E.R,List.length_append,List.length_singleton]
         have:=d10.len
         omega
        ·have hN:(n'.I ρ').toNat=(r.l.R ρ').length:=by rw[d9]; simp
         have hR:(E.lapp q.l (.cons (.var kw1.vk.length) .nil)).R ρ'=q.l.R ρ'++[[(m:Int)]]:=by
          simp only[E.R,E.L,E.I]
          rw[show ρ'.i kw1.vk.length=(m:Int) by rw[v1]; exact hz0]
         unfold obOf
         simp only[hqk]
         rw[hR]
         refine⟨d12,?_,?_,fun z hz=> ?_⟩
         ·rw[hN,←f2,d8,hborn,f3']
          simp[idxs]
         ·rw[List.nodup_append]
          refine⟨d14,by simp,fun z hz z' hz'=> ?_⟩
          rw[List.mem_singleton.1 hz']
          exact hne z hz
         ·rcases List.mem_append.1 hz with hz | hz
          ·exact d15 z hz
          ·rw[List.mem_singleton.1 hz,d9]
           simp
           omega
       ·exact hh'.elim
   ·exact h.elim
  ·exact h.elim
 ·exact h.elim
theorem ko {y:Operand} (h:jm y=true) (a:Act):a.eval y=.slice none 0 0:=by
 unfold jm at h
 split at h
 ·rfl
 ·cases h
theorem zH (hT:∀t i,(t,i)∈cx.ty→TIok P t i) {o:Oper} {xt yt:Nat} {x y:Operand} {id:Nat} {s:St} {kw:Kw} {k:St→Kw→Tr} {j:J} {a:Act} {w:World} (hop:o.op=.binOp .eql xt x y yt) (hy:jm y=true) (hev:evS s.n s.tmps x=some (.one (.sl id))) (h:(nilK cx o xt id s kw k).holds sp G ρ I) (hg:Good sp cx.sm ρ kw) (hr:At cx ρ n X W0 s j a w) {K:Act→World→Prop} {Q:Exit→Act→World→Prop}
  (hK:∀s' kw' ρ' I' j' a' w',(k s' kw').holds sp G ρ' I'→Good sp cx.sm ρ' kw'→Nx kw kw' ρ ρ' I I'→At cx ρ' n X W0 s' j' a' w'→K a' w'):o.wp P a w K Q:=by
 unfold nilK at h
 split at h
 ·rename_i r i hq hi
  split at h
  ·rename_i hc
   simp only[Bool.and_eq_true] at hc
   obtain⟨hkd,hsl,hok⟩:=hc
   obtain⟨et,het⟩:=Option.isSome_iff_exists.1 hsl
   have hu:=(hT _ _ (ab hi)).sle et het
   have hx:=hr.ev hev
   obtain⟨sv,hs,hv⟩:∃sv:SV,j.s id=some sv∧a.eval x=sv.v:=by
    simp only[V.den,C.den,Option.map_eq_some_iff] at hx
    obtain⟨sv,h1,h2⟩:=hx
    exact⟨sv,h1,h2.symm⟩
   obtain⟨ρ',ha,hz,hh⟩:=h (if sv.a.isNone then 0 else 1) (by split<;>decide)
   have hr':At cx ρ' n X W0 s ((eL s kw).J j) a w:=⟨dR hok (lO ha) hr.rel,hr.len,hr.own⟩
   have hcond:(nilE r.l kw.vk.length).B ρ'=true:=by
    have hx':=hr'.ev hev
    simp only[V.den,C.den,Option.map_eq_some_iff] at hx'
    obtain⟨sv',h1,h2⟩:=hx'
    obtain⟨sv2,h3,h4⟩:=hr'.rel.row id r (cA (by rw[dg]; exact hq))
    rw[h1] at h3
    cases h3
    have hkd':r.kd=.sl:=by
     cases hd:r.kd with
     | sl=>rfl
     | _=>rw[hd] at hkd; cases hkd
    have h5:=h4.1 hkd'
    have h6:=h5.n
    have h7:=h5.rd.2.2.2.1
    rw[hv] at h2
    obtain⟨sa,sn,sc,sz⟩:=sv
    obtain⟨ta,tn,tc,tz⟩:=sv'
    simp only[SV.v,Value.slice.injEq] at h2
    obtain⟨rfl,rfl,rfl⟩:=h2
    simp only[nilE,E.B,E.I,hz,ay,←h6]
    cases ta with
    | none=>
      have h8:=(h7 rfl).1
      simp only at h8
      subst h8
      simp
    | some q=>simp
   have hh':=hh hcond
   split at hh'
   ·rename_i s' hs'
    obtain⟨e1,e2,e3,_,_,_⟩:=St.app_ok hr.le hs'
    have hrun:(execOp a.eval o).run P w=.ok (.value (.bool sv.a.isNone)) w:=by
     obtain⟨sa,sn,sc,sz⟩:=sv
     have h1:=Go.Lib.run_eql_slice_nil (P:=P) w xt et sa sn sc 0 0 hu
     simp only[execOp,hop,hv,ko hy,SV.v,eqGuard,Sem.run_bind]
     exact congrArg (fun r=>Result.andThen r fun a w'=>Result.ok (Next.value a) w') h1
    refine bf hrun (hK s' _ ρ' I ((eL s kw).J j) _ _ hh' (dS hg ha ⟨?_,trivial⟩) ⟨ha,fun _ _=>rfl,by simp[Kw.head],by simp[Kw.head]⟩ ⟨?_,by rw[e2.1]; exact hr.len,by rw[e2.2]; exact hr.own⟩)
    ·show inK .i64 (ρ'.i kw.vk.length)=true
     rw[hz]; split<;>decide
    ·rw[e1]
     refine hr'.rel.put ?_ (fun d hd=>by rw[←hr.own]; exact e3 d hd)
     simp only[V.den,C.den,E.B,E.I,hz]
     cases sv.a<;>rfl
   ·exact hh'.elim
  ·exact h.elim
 ·exact h.elim
theorem yg (hT:∀t i,(t,i)∈cx.ty→TIok P t i) (hcl:ClOk P sp G cx ry cl X W0) {o:Oper} {s:St} {kw:Kw} {k:St→Kw→Tr} {j:J} {a:Act} {w:World} (h:(goK cl cx o s kw k).holds sp G ρ I) (hg:Good sp cx.sm ρ kw) (hr:At cx ρ n X W0 s j a w) {K:Act→World→Prop} {Q:Exit→Act→World→Prop}
  (hK:∀s' kw' ρ' I' j' a' w',(k s' kw').holds sp G ρ' I'→Good sp cx.sm ρ' kw'→Nx kw kw' ρ ρ' I I'→At cx ρ' n X W0 s' j' a' w'→K a' w'):o.wpIn (Fw ro) 0 P a w K Q:=by
 unfold goK at h
 split at h
 ·rename_i xt x y yt hop
  split at h
  ·rename_i hy
   split at h
   ·rename_i id hx; exact cQ (by simp[hop]) (zH hT hop hy hx h hg hr hK)
   ·rename_i hx
    split at h
    ·rename_i i hi
     split at h
     ·rename_i hsl
      split at h
      ·rename_i s' hs'
       obtain⟨et,het⟩:=Option.isSome_iff_exists.1 hsl
       have hu:=(hT _ _ (ab hi)).sle et het
       obtain⟨e1,e2,e3,_,_,_⟩:=St.app_ok hr.le hs'
       have hv:a.eval x=.slice none 0 0:=(Option.some.inj (hr.ev hx)).symm
       have hrun:(execOp a.eval o).run P w=.ok (.value (.bool true)) w:=by
        have h1:=Go.Lib.run_eql_slice_nil (P:=P) w xt et none 0 0 0 0 hu
        simp only[execOp,hop,hv,ko hy,eqGuard,Sem.run_bind]
        exact congrArg (fun r=>Result.andThen r fun a w'=>Result.ok (Next.value a) w') h1
       refine cQ (by simp[hop]) (bf hrun (hK s' kw ρ I j _ w h hg (.of (.refl _) _ _) ⟨?_,by rw[e2.1]; exact hr.len,by rw[e2.2]; exact hr.own⟩))
       rw[e1]
       exact hr.rel.put rfl (fun d hd=>by rw[←hr.own]; exact e3 d hd)
      ·exact h.elim
     ·exact h.elim
    ·exact h.elim
   ·exact h.elim
  ·exact h.elim
 ·rename_i c hop
  split at h
  ·rename_i f hc
   have run:∀(g:Nat) (vals:List Value),(execOp a.eval o).run P w=(callFunc g vals.toArray).run P w→((callFunc g vals.toArray).run P w=.ok (.enter g vals.toArray) w∧Calls P g vals.toArray w fun e w'=>∃u,e=.returned u∧K (a.put o.dst u) w')→o.wpIn (Fw ro) 0 P a w K Q:=by
    intro g vals h6 ⟨h7,h8⟩
    refine cQ (by simp[hop]) ?_
    unfold Oper.wp
    rw[h6,h7]
    show Calls P g _ w _
    refine h8.mono ?_
    rintro e' w' ⟨u,rfl,hk⟩
    exact hk
   split at h
   ·rename_i g args hf hl
    split at h<;>first | exact h.elim | skip
    rename_i hgb
    have hgb:g<yB:=by simpa[Nat.blt_eq] using hgb
    obtain⟨h1,h2⟩:=du (ρ:=ρ) (j:=j) (a:=a) hl (fun x _ v hv=>hr.ev hv)
    have h4:=hr.ev hf
    have h5:a.eval f=.func (.func g) #[] #[]:=(Option.some.inj h4).symm
    refine run g (c.args.toList.map a.eval) ?_ (vh hcl hgb h hg hr (by simpa using h2) (fun i x hx=> ?_) hK)
    ·have h7:c.args.map a.eval=(c.args.toList.map a.eval).toArray:=by rw[←cq]
     rw[←h7]
     simp only[execOp,hop,resolve,hc,h5,Deferred.ofValue,Sem.run_bind,Sem.run_pure,Result.andThen_ok,invoke,Array.empty_append,Array.append_empty]
    ·have hlt:i<(c.args.toList.map a.eval).length:=by
      have:=(List.getElem?_eq_some_iff.1 hx).1
      rw[h2]; exact this
     exact⟨_,List.getElem?_eq_getElem hlt,h1 i x _ hx (List.getElem?_eq_getElem hlt)⟩
   ·rename_i g fs ps args hf hl
    split at h<;>first | exact h.elim | skip
    rename_i hgb
    have hgb:g<yB:=by simpa[Nat.blt_eq] using hgb
    obtain⟨h1,h2⟩:=du (ρ:=ρ) (j:=j) (a:=a) hl (fun x _ v hv=>hr.ev hv)
    obtain⟨x,y,hx,hy,h5⟩:=cF (show cloV g (bT j fs) (bT j ps)=some (a.eval f) from hr.ev hf)
    obtain⟨e1,e2⟩:=fT (ρ:=ρ) hx
    obtain⟨e3,e4⟩:=fT (ρ:=ρ) hy
    have e5:∀(i:Nat) z,args[i]? =some z→∃u,(c.args.toList.map a.eval)[i]? =some u∧z.den ρ j=some u:=fun i z hz=>by
     have hlt:i<(c.args.toList.map a.eval).length:=by
      have:=(List.getElem?_eq_some_iff.1 hz).1
      rw[h2]; exact this
     exact⟨_,List.getElem?_eq_getElem hlt,h1 i z _ hz (List.getElem?_eq_getElem hlt)⟩
    refine run g (x++c.args.toList.map a.eval++y) ?_ (vh hcl hgb h hg hr (by simp only[List.length_append,e1,e3,h2]) (ir (by simp only[List.length_append,e1,h2]) (ir e1 e2 e5) e4) hK)
    have h7:c.args.map a.eval=(c.args.toList.map a.eval).toArray:=by rw[←cq]
    have h8:(x++c.args.toList.map a.eval++y).toArray=x.toArray++c.args.map a.eval++y.toArray:=by rw[h7]; simp
    rw[h8]
    simp only[execOp,hop,resolve,hc,h5,Deferred.ofValue,Sem.run_bind,Sem.run_pure,Result.andThen_ok,invoke]
   ·rename_i id args hf hl
    obtain⟨h1,h2⟩:=du (ρ:=ρ) (j:=j) (a:=a) hl (fun x _ v hv=>hr.ev hv)
    have h4:(j.g.y id).map (fun l=>Value.func (.yield l) #[] #[])=some (a.eval f):=hr.ev hf
    rw[Option.map_eq_some_iff] at h4
    obtain⟨l,hyl,h5⟩:=h4
    obtain⟨f',tmps',assign',body',h6,h7⟩:=zV hcl h hg hr (vals:=c.args.toList.map a.eval) (by simpa using h2) hyl (fun i x hx=>by
     have hlt:i<(c.args.toList.map a.eval).length:=by
      have:=(List.getElem?_eq_some_iff.1 hx).1
      rw[h2]; exact this
     exact⟨_,List.getElem?_eq_getElem hlt,h1 i x _ hx (List.getElem?_eq_getElem hlt)⟩) hK
    have h8:c.args.map a.eval=(c.args.toList.map a.eval).toArray:=by rw[←cq]
    refine⟨fun _ _=>trivial,?_⟩
    rw[Oper.semAt_eq _ _ _ (by simp[hop])]
    have h9:(execOp a.eval o).run P w=.ok (.round l f' tmps' assign' body') w:=by
     rw[←h6,←h8]
     simp only[execOp,hop,resolve,hc,←h5,Deferred.ofValue,Sem.run_bind,Sem.run_pure,Result.andThen_ok,invoke,Array.empty_append,Array.append_empty]
    rw[h9]
    refine⟨qC,(h7 ro).mono ?_⟩
    rintro e' w' ⟨u,rfl,hk⟩
    exact hk
   ·exact h.elim
  ·exact h.elim
 ·rename_i x hop
  split at h
  ·rename_i id mid hx
   exact cQ (by simp[hop]) (aap hop (hr.ev hx) h hg hr hK)
  ·exact h.elim
 ·exact h.elim
theorem xW {rs:List Rec} {o:Oper} (h:rs.map (·.o)=[o]):∃r,rs=[r]:=by
 cases rs with
 | nil=>cases h
 | cons r l=>cases l with
   | nil=>exact⟨r,rfl⟩
   | cons=>simp at h
theorem pD {o:Oper} {i:Nat} (ho:ops[i]? =some o) {s:St} {kw:Kw} {k:St→Kw→Tr} {j:J} {a:Act} {w:World} (h:(wu o s kw k).holds sp G ρ I) (hg:Good sp cx.sm ρ kw) (hr:At cx ρ n X W0 s j a w) (hw:Region.wanted o (yielded ops a.tmps)=false)
  {K:Act→World→Prop} {Q:Exit→Act→World→Prop}
  (hK:∀s' kw' ρ' I' j' a' w',(k s' kw').holds sp G ρ' I'→Good sp cx.sm ρ' kw'→Nx kw kw' ρ ρ' I I'→At cx ρ' n X W0 s' j' a' w'→K a' w'):wpOpIn (Fw ro) 0 P ops Q i K a w:=by
 unfold wu at h
 split at h
 ·rename_i s' hs'
  obtain⟨e1,e2,e3,_,_,_⟩:=St.app_ok hr.le hs'
  unfold wpOpIn
  simp only[ho,hw]
  refine⟨fun _ _=>trivial,hK s' kw ρ I j _ w h hg (.refl _ _ _) ⟨?_,by rw[e2.1]; exact hr.len,by rw[e2.2]; exact hr.own⟩⟩
  rw[e1]
  exact hr.rel.put rfl (fun d hd=>by rw[←hr.own]; exact e3 d hd)
 ·exact h.elim
theorem pg (hT:∀t i,(t,i)∈cx.ty→TIok P t i) (hS:∀s∈cx.sm,SmOk P sp s) (hkeys:∀s∈cx.sm,∀s'∈cx.sm,s.key=s'.key→s=s') (hcl:ClOk P sp G cx ry cl X W0) {o:Oper} {i:Nat} (ho:ops[i]? =some o) {s:St} {kw:Kw} {k:St→Kw→Tr} {j:J} {a:Act} {w:World}
  (h:(barK cl cx ops o s kw k).holds sp G ρ I) (hg:Good sp cx.sm ρ kw) (hr:At cx ρ n X W0 s j a w) {K:Act→World→Prop} {Q:Exit→Act→World→Prop}
  (hK:∀s' kw' ρ' I' j' a' w',(k s' kw').holds sp G ρ' I'→Good sp cx.sm ρ' kw'→Nx kw kw' ρ ρ' I I'→At cx ρ' n X W0 s' j' a' w'→K a' w'):wpOpIn (Fw ro) 0 P ops Q i K a w:=by
 unfold barK at h
 split at h
 ·obtain⟨rs,s',kw',h1,g1,l1,h2,h3,h4,h5⟩:=dO (P:=P) (base:=W0.heap.size) hT hS hkeys [o] s kw _ h hg hr.le
  obtain⟨r,rfl⟩:=xW h2
  have e2:r.o=o:=by simpa using h2
  have h6:=h5 0 r rfl
  rw[hr.own] at h6
  subst e2
  refine dZ hr.rel h6 ho (fun j' a' w' h'=>hK s' kw' ρ I j' a' w' h1 g1 (.of l1 _ _) ⟨?_,by rw[h4.1]; exact hr.len,by rw[h4.2]; exact hr.own⟩)
  rw[h3]
  exact h'
 ·split at h
  ·rename_i hgd
   unfold wpOpIn
   simp only[ho,Region.wanted,hgd,if_true]
   exact yg hT hcl h hg hr hK
  ·rename_i g b hgd
   have tmpAt:∀v,((ops[g]?).bind (·.dst)).bind (fun t=>if Nat.blt t s.n then s.tmps.get? t else none)=some v→∃t,(ops[g]?).bind (·.dst)=some t∧t<n∧s.fs.tmp t=v:=by
    intro v h
    rw[Option.bind_eq_some_iff] at h
    obtain⟨t,h1,h2⟩:=h
    split at h2
    ·rename_i ht
     refine⟨t,h1,?_,by simp[St.fs,fsOf,h2]⟩
     rw[←hr.own]
     simpa[Nat.blt_eq] using ht
    ·cases h2
   split at h
   ·rename_i e he
    obtain⟨t,h1,h2,h3⟩:=tmpAt _ he
    obtain⟨h4,-⟩:=fV hr.rel h1 h2
    have h5:=h4 e h3
    obtain⟨kw1,h6,g6,v6,l6⟩:=ak _ _ _ h hg
    have hnx:Nx kw kw1 ρ ρ I I:=.of l6 _ _
    have hw:Region.wanted o (yielded ops a.tmps)=(e.B ρ==b):=by
     simp only[Region.wanted,hgd,h5]
     cases e.B ρ<;>cases b<;>rfl
    split at h6
    ·rename_i hb
     unfold wpOpIn
     simp only[ho,hw,hb,if_true]
     exact(yg hT hcl h6 g6 hr (fun s' kw' ρ' I' j' a' w' q1 q2 q3 q4=>hK s' kw' ρ' I' j' a' w' q1 q2 (hnx.trans q3) q4))
    ·rename_i hb
     exact pD ho h6 g6 hr (by rw[hw]; simpa using hb) (fun s' kw' ρ' I' j' a' w' q1 q2 q3 q4=>hK s' kw' ρ' I' j' a' w' q1 q2 (hnx.trans q3) q4)
   ·rename_i he
    obtain⟨t,h1,h2,h3⟩:=tmpAt _ he
    obtain⟨-,h4⟩:=fV hr.rel h1 h2
    refine pD ho h hg hr ?_ hK
    simp only[Region.wanted,hgd,h4 h3]
    rfl
   ·exact h.elim
theorem uA (hT:∀t i,(t,i)∈cx.ty→TIok P t i) (hS:∀s∈cx.sm,SmOk P sp s) (hkeys:∀s∈cx.sm,∀s'∈cx.sm,s.key=s'.key→s=s') (hcl:ClOk P sp G cx ry cl X W0) {Q:Exit→Act→World→Prop}:
  ∀(l:List Oper) (i:Nat),(∀(m:Nat) o,l[m]? =some o→ops[i+m]? =some o)→∀(s:St) (kw:Kw) (k:St→Kw→Tr) (ρ:Env) (I:Nat→List Dt→Prop) (j:J) (a:Act) (w:World),(regS cl cx ops l s kw k).holds sp G ρ I→Good sp cx.sm ρ kw→At cx ρ n X W0 s j a w→
   (∀s' kw' ρ' I' j' a' w',(k s' kw').holds sp G ρ' I'→Good sp cx.sm ρ' kw'→Nx kw kw' ρ ρ' I I'→At cx ρ' n X W0 s' j' a' w'→Q .normal a' w')→wpOpsIn (Fw ro) 0 P ops Q (List.range' i l.length) a w
 | [],i,hi,s,kw,k,ρ,I,j,a,w,h,hg,hr,hK=>by
   simp only[List.length_nil,List.range'_zero,wpOpsIn]
   exact hK s kw ρ I j a w h hg (.refl _ _ _) hr
 | o::l,i,hi,s,kw,k,ρ,I,j,a,w,h,hg,hr,hK=>by
   simp only[List.length_cons,List.range'_succ]
   rw[wpOpsIn_cons]
   have ho:ops[i]? =some o:=hi 0 o rfl
   have tail:∀s' kw' ρ' I' j' a' w',(regS cl cx ops l s' kw' k).holds sp G ρ' I'→Good sp cx.sm ρ' kw'→Nx kw kw' ρ ρ' I I'→At cx ρ' n X W0 s' j' a' w'→wpOpsIn (Fw ro) 0 P ops Q (List.range' (i+1) l.length) a' w':=
    fun s' kw' ρ' I' j' a' w' q1 q2 q3 q4=>uA hT hS hkeys hcl l (i+1) (fun m o hm=>by rw[Nat.add_assoc,Nat.add_comm 1 m]; exact hi (m+1) o (by simpa using hm)) s' kw' k ρ' I' j' a' w' q1 q2 q4
     (fun s2 kw2 ρ2 I2 j2 a2 w2 p1 p2 p3 p4=>hK s2 kw2 ρ2 I2 j2 a2 w2 p1 p2 (q3.trans p3) p4)
   simp only[regS] at h
   split at h
   ·exact pg hT hS hkeys hcl ho h hg hr tail
   ·obtain⟨rs,s',kw',h1,g1,l1,h2,h3,h4,h5⟩:=dO (P:=P) (base:=W0.heap.size) hT hS hkeys [o] s kw _ h hg hr.le
    obtain⟨r,rfl⟩:=xW h2
    have e2:r.o=o:=by simpa using h2
    have h6:=h5 0 r rfl
    rw[hr.own] at h6
    subst e2
    refine dZ hr.rel h6 ho (fun j' a' w' h'=>tail s' kw' ρ I j' a' w' h1 g1 (.of l1 _ _) ⟨?_,by rw[h4.1]; exact hr.len,by rw[h4.2]; exact hr.own⟩)
    rw[h3]
    exact h'
end
end Go.Proofs.Ytghiofgomcihcaa
