import Derived.Test.YtghiofgomcihcaaSyI2
set_option linter.unusedVariables false
set_option linter.unusedSimpArgs false
namespace Go.Proofs.Ytghiofgomcihcaa
open Go.RowKit
def part (sel:Nat→Bool):Nat→List Rec→FS→FS
 | _,[],F=>F
 | i,r::l,F=>part sel (i+1) l (if sel i then F.rec' r else F)
def full (l:List Rec) (F:FS):FS:=l.foldl FS.rec' F
section
variable {P:Program} {ρ:Env} {n:Nat} {X:List Value} {W0:Wb} {fb:Nat→Option (List C)} {ops:Array Oper} {ro:Option Nat}
theorem fk (sel:Nat→Bool):∀(l m:List Rec) (i:Nat) (F:FS),part sel i (l++m) F=part sel (i+l.length) m (part sel i l F)
 | [],m,i,F=>rfl
 | r::l,m,i,F=>by
   simp only[List.cons_append,part,List.length_cons]
   rw[fk sel l m (i+1)]
   congr 1
   omega
theorem oq {sel:Nat→Bool}:∀(l:List Rec) (i:Nat) (F:FS),(∀m,m<l.length→sel (i+m)=true)→part sel i l F=full l F
 | [],_,_,_=>rfl
 | r::l,i,F,h=>by
   have h0:=h 0 (by simp)
   simp only[Nat.add_zero] at h0
   simp only[part,h0,if_true,full,List.foldl_cons]
   exact oq l (i+1) _ (fun m hm=>by rw[Nat.add_assoc,Nat.add_comm 1 m]; exact h (m+1) (by simpa using hm))
theorem om {sel:Nat→Bool}:∀(l:List Rec) (i:Nat) (F:FS),(∀m,m<l.length→sel (i+m)=false)→part sel i l F=F
 | [],_,_,_=>rfl
 | r::l,i,F,h=>by
   have h0:=h 0 (by simp)
   simp only[Nat.add_zero] at h0
   simp only[part,h0]
   exact om l (i+1) _ (fun m hm=>by rw[Nat.add_assoc,Nat.add_comm 1 m]; exact h (m+1) (by simpa using hm))
theorem gU {sel sel':Nat→Bool}:∀(l:List Rec) (i:Nat) (F:FS),(∀m,m<l.length→sel (i+m)=sel' (i+m))→part sel i l F=part sel' i l F
 | [],_,_,_=>rfl
 | r::l,i,F,h=>by
   have h0:=h 0 (by simp)
   simp only[Nat.add_zero] at h0
   simp only[part,h0]
   exact gU l (i+1) _ (fun m hm=>by rw[Nat.add_assoc,Nat.add_comm 1 m]; exact h (m+1) (by simpa using hm))
theorem ky {r:Rec} {sel:Nat→Bool}:∀(l:List Rec) (i:Nat) (F F':FS),Agree ops r F F'→(∀(m:Nat) x,l[m]? =some x→sel (i+m)=false→Indep ops x r)→Agree ops r (full l F) (part sel i l F')
 | [],_,_,_,h,_=>h
 | x::l,i,F,F',h,hi=>by
   simp only[full,List.foldl_cons,part]
   have tail:∀(m:Nat) y,l[m]? =some y→sel (i+1+m)=false→Indep ops y r:=fun m y hm hs=>hi (m+1) y (by simpa using hm) (by rw[Nat.add_assoc,Nat.add_comm 1 m] at hs; exact hs)
   by_cases hs:sel i=true
   ·simp only[hs,if_true]
    exact ky l (i+1) _ _ h.congr tail
   ·simp only[hs]
    exact ky l (i+1) _ _ (((Agree.step (hi 0 x rfl (by simpa using hs)) F).symm).trans h) tail
theorem ij {r:Rec} {sel:Nat→Bool}:∀(l:List Rec) (i:Nat) (F F':FS),Agree ops r F F'→(∀(m:Nat) x,l[m]? =some x→sel (i+m)=true→Indep ops x r)→Agree ops r F (part sel i l F')
 | [],_,_,_,h,_=>h
 | x::l,i,F,F',h,hi=>by
   simp only[part]
   have tail:∀(m:Nat) y,l[m]? =some y→sel (i+1+m)=true→Indep ops y r:=fun m y hm hs=>hi (m+1) y (by simpa using hm) (by rw[Nat.add_assoc,Nat.add_comm 1 m] at hs; exact hs)
   by_cases hs:sel i=true
   ·simp only[hs,if_true]
    exact ij l (i+1) _ _ (h.trans (Agree.step (hi 0 x rfl (by simpa using hs)) F')) tail
   ·simp only[hs]
    exact ij l (i+1) _ _ h tail
theorem ml {r:Rec} {sel:Nat→Bool}:∀(l:List Rec) (i:Nat) (F:FS),(∀(m:Nat) x,l[m]? =some x→sel (i+m)=true→Indep ops x r)→part sel i l (F.rec' r)=(part sel i l F).rec' r
 | [],_,_,_=>rfl
 | x::l,i,F,hi=>by
   simp only[part]
   have tail:∀(m:Nat) y,l[m]? =some y→sel (i+1+m)=true→Indep ops y r:=fun m y hm hs=>hi (m+1) y (by simpa using hm) (by rw[Nat.add_assoc,Nat.add_comm 1 m] at hs; exact hs)
   by_cases hs:sel i=true
   ·simp only[hs,if_true]
    rw[←ra (hi 0 x rfl (by simpa using hs))]
    exact ml l (i+1) _ tail
   ·simp only[hs]
    exact ml l (i+1) _ tail
structure RecOk (P:Program) (ρ:Env) (n:Nat) (base:Nat) (fb:Nat→Option (List C)) (ops:Array Oper) (r:Rec) (F:FS):Prop where
 run:r.want=true→∃vw,vw.nid=r.nid∧OpOk P ρ base vw r.o r.eff∧Sees n fb vw r.o r.eff F
 skip:r.want=false→r.eff={val:=.one .undef}
 guard:match r.o.guard with
  | none=>r.want=true
  | some (g,b)=>∃t,(ops[g]?).bind (·.dst)=some t∧t<n∧((∃e:E,F.tmp t=.one (.bool e)∧r.want=(e.B ρ==b))∨(F.tmp t=.one .undef∧r.want=false))
 dst:∀d,r.o.dst=some d→d<n
theorem RecOk.agree {r:Rec} {F F':FS} (h:RecOk P ρ n W0.heap.size fb ops r F) (ha:Agree ops r F F'):RecOk P ρ n W0.heap.size fb ops r F':=by
 refine⟨fun hw=> ?_,h.skip,?_,h.dst⟩
 ·obtain⟨vw,hn,h1,h2⟩:=h.run hw
  have hrow:∀b∈r.rid,F.row b=F'.row b:=fun b hb=>ha.row b (List.mem_append_right _ hb)
  refine⟨vw,hn,h1,⟨fun x hx v hv=> ?_,fun p hp c hc=> ?_,fun p hp=> ?_,fun hx=>by rw[hn]; exact(ha.nw hx).1 (by rw[←hn]; exact h2.nw hx),fun id hid q hq=> ?_,?_,h2.fb,h2.one⟩⟩
  ·have h3:=h2.ev x hx v hv
   cases x with
   | tmp t=>
     simp only[evF] at h3 ⊢
     rw[←ha.t t (List.mem_append_left _ (rp hx))]
     exact h3
   | _=>exact h3
  ·rw[←ha.rd p hp]; exact h2.rd p hp c hc
  ·obtain⟨c,hc⟩:=h2.wr p hp
   have:=ha.wr p hp
   rw[hc] at this
   exact Option.isSome_iff_exists.1 this.symm
  ·have:=h2.rr id hid q hq
   unfold rwF at this ⊢
   rw[←ha.row id (List.mem_append_left _ hid)]
   exact this
  ·have h3:=h2.re
   rw[hn] at h3 ⊢
   unfold Rec.rid at hrow
   revert h3 hrow
   cases r.eff.re with
   | none=>exact fun _ _=>trivial
   | set id q=>intro hrow h3; exact⟨by rw[←hrow id (by simp[RE.rs])]; exact h3.1,h3.2⟩
   | mk rs=>
     intro hrow h3 i hi
     have mem:∀(rs:List RowOb) (nid i:Nat),i<rs.length→nid+i∈(mkRs nid rs).map (·.1):=by
      intro rs
      induction rs with
      | nil=>intro nid i hi; simp at hi
      | cons x rs ih=>
        intro nid i hi
        cases i with
        | zero=>simp[mkRs]
        | succ i=>
          simp only[mkRs,List.map_cons,List.mem_cons]
          right
          rw[show nid+(i+1)=nid+1+i by omega]
          exact ih (nid+1) i (by simpa using hi)
     rw[←hrow _ (mem rs r.nid i hi)]
     exact h3 i hi
   | app old q=>intro hrow h3; exact⟨by rw[←hrow old (by simp[RE.rs])]; exact h3.1,h3.2.1,by rw[←hrow r.nid (by simp[RE.rs])]; exact h3.2.2.1,h3.2.2.2⟩
   | frz old q0 q=>intro hrow h3; exact⟨by rw[←hrow old (by simp[RE.rs])]; exact h3.1,h3.2.1,h3.2.2.1,by rw[←hrow r.nid (by simp[RE.rs])]; exact h3.2.2.2.1,h3.2.2.2.2⟩
   | peek q=>intro hrow h3; exact⟨h3.1,by rw[←hrow r.nid (by simp[RE.rs])]; exact h3.2⟩
   | view old q0 q=>intro hrow h3; exact⟨by rw[←hrow old (by simp[RE.rs])]; exact h3.1,h3.2.1,h3.2.2.1,by rw[←hrow r.nid (by simp[RE.rs])]; exact h3.2.2.2.1,h3.2.2.2.2⟩
 ·have hg:=h.guard
  cases hgd:r.o.guard with
  | none=>rw[hgd] at hg; exact hg
  | some p=>
    obtain⟨g,b⟩:=p
    rw[hgd] at hg
    obtain⟨t,h1,h2,h3⟩:=hg
    refine⟨t,h1,h2,?_⟩
    have:F.tmp t=F'.tmp t:=ha.t t (List.mem_append_right _ (by simp[gTs,hgd,h1]))
    rw[←this]
    exact h3
theorem gz {j:J} {a:Act} {w:World} {F:FS} (h:Rel ρ n X W0 fb F j a w) {g t:Nat} (ht:(ops[g]?).bind (·.dst)=some t) (hn:t<n):
  (∀e,F.tmp t=.one (.bool e)→yielded ops a.tmps g=some (e.B ρ))∧(F.tmp t=.one .undef→yielded ops a.tmps g=none):=by
 obtain⟨v,h1,h2⟩:=h.tmp t hn
 constructor
 ·intro e he
  rw[he] at h2
  rcases h2 with h2 | h2
  ·cases h2
  have:=ez h2
  subst this
  simp[yielded,ht,h1]
 ·intro he
  rw[he] at h2
  rcases h2 with h2 | h2
  ·cases h2
  have:v=Go.undef:=(Option.some.inj h2).symm
  subst this
  simp[yielded,ht,h1,Go.undef]
theorem we {j:J} {a:Act} {w:World} {F:FS} (h:Rel ρ n X W0 fb F j a w) {r:Rec} (hr:RecOk P ρ n W0.heap.size fb ops r F) (hwant:r.want=true)
  {K:Act→World→Prop} {Q:Exit→Act→World→Prop} (hK:∀j' a' w',Rel ρ n X W0 fb (F.rec' r) j' a' w'→K a' w'):r.o.wp P a w K Q:=by
 obtain⟨vw,hn,h1,h2⟩:=hr.run hwant
 exact aa4 h h1 h2 hr.dst (by rw[hn]; exact hK)
theorem acg {j:J} {a:Act} {w:World} {F:FS} (h:Rel ρ n X W0 fb F j a w) {r:Rec} (hr:RecOk P ρ n W0.heap.size fb ops r F) (hwant:r.want=true):∀c,r.o.op≠.defer c:=
 yJ (we h hr hwant (fun j' a' w' h'=>h'.defers.trans h.defers.symm))
theorem qY {j:J} {a:Act} {w:World} {F:FS} (h:Rel ρ n X W0 fb F j a w) {r:Rec} (hr:RecOk P ρ n W0.heap.size fb ops r F):Region.wanted r.o (yielded ops a.tmps)=r.want:=by
 have hg:=hr.guard
 unfold Region.wanted
 cases hgd:r.o.guard with
 | none=>rw[hgd] at hg; exact hg.symm
 | some p=>
   obtain⟨g,b⟩:=p
   rw[hgd] at hg
   obtain⟨t,h1,h2,h3⟩:=hg
   obtain⟨h4,h5⟩:=gz h h1 h2
   rcases h3 with⟨e,h6,h7⟩ | ⟨h6,h7⟩
   ·simp only[h4 e h6,h7]
    cases e.B ρ<;>cases b<;>rfl
   ·simp only[h5 h6,h7]
    rfl
theorem ey {j:J} {a:Act} {w:World} {F:FS} (h:Rel ρ n X W0 fb F j a w) {r:Rec} (hr:RecOk P ρ n W0.heap.size fb ops r F) {i:Nat} (hi:ops[i]? =some r.o)
  {K:Act→World→Prop} {Q:Exit→Act→World→Prop} (hK:∀j' a' w',Rel ρ n X W0 fb (F.rec' r) j' a' w'→K a' w'):wpOpIn (Fw ro) 0 P ops Q i K a w:=by
 have hw:=qY h hr
 unfold wpOpIn
 simp only[hi,hw]
 cases hwant:r.want with
 | true=>exact eu (acg h hr hwant) (we h hr hwant hK)
 | false=>
   have he:=hr.skip hwant
   refine⟨fun _ _=>trivial,hK j _ w ?_⟩
   unfold FS.rec' FS.app
   rw[he]
   exact h.put rfl hr.dst
theorem kQ:∀(post pre:List Rec) (F0:FS),ops.toList=(pre++post).map (·.o)→(∀(m:Nat) r,post[m]? =some r→RecOk P ρ n W0.heap.size fb ops r (full (pre++post.take m) F0))→
  ∀{Q:Exit→Act→World→Prop} {j:J} {a:Act} {w:World},Rel ρ n X W0 fb (full pre F0) j a w→(∀j' a' w',Rel ρ n X W0 fb (full (pre++post) F0) j' a' w'→Q .normal a' w')→wpOpsIn (Fw ro) 0 P ops Q (List.range' pre.length post.length) a w
 | [],pre,F0,hl,hr,Q,j,a,w,h,hQ=>by
   simp only[List.length_nil,List.range'_zero,wpOpsIn]
   exact hQ j a w (by simpa using h)
 | r::post,pre,F0,hl,hr,Q,j,a,w,h,hQ=>by
   simp only[List.length_cons,List.range'_succ]
   rw[wpOpsIn_cons]
   have h0:=hr 0 r rfl
   simp only[List.take_zero,List.append_nil] at h0
   refine ey h h0 ?_ (fun j' a' w' h'=> ?_)
   ·rw[←Array.getElem?_toList,hl]
    simp
   ·have:=kQ post (pre++[r]) F0 (by rw[hl]; simp) (fun m x hm=>by
     have:=hr (m+1) x (by simpa using hm)
     simpa using this) (Q:=Q) (j:=j') (a:=a') (w:=w') (by simpa[full] using h') (fun j'' a'' w'' h''=>hQ j'' a'' w'' (by simpa using h''))
    simpa using this
def dd (ops:Array Oper) (sel:Nat→Bool):Prop:=∀(i:Nat) o,ops[i]? =some o→sel i=true→∀e∈o.after,Region.binds .any e=true→sel e.on=true
theorem sU {L:List Rec} {F0:FS} (hl:ops.toList=L.map (·.o)) (hr:∀(m:Nat) r,L[m]? =some r→RecOk P ρ n W0.heap.size fb ops r (full (L.take m) F0))
  (hback:∀(i:Nat) o,ops[i]? =some o→∀e∈o.after,Region.binds .any e=true→e.on<i)
  (hpair:∀(k i:Nat) x r,k<i→L[k]? =some x→L[i]? =some r→Indep ops x r∨∀sel,dd ops sel→(∀o,ops[i]? =some o→∀e∈o.after,Region.binds .any e=true→sel e.on=true)→sel k=true) {Q:Exit→Act→World→Prop}
  (hQ:∀j' a' w',Rel ρ n X W0 fb (full L F0) j' a' w'→Q .normal a' w'):
  ∀(fuel:Nat) (listed:Array Bool) (j:J) (a:Act) (w:World),listed.size=L.length→dd ops (fun i=>listed.getD i false)→(List.range L.length).countP (fun i=>!listed.getD i false)≤fuel→
   Rel ρ n X W0 fb (part (fun i=>listed.getD i false) 0 L F0) j a w→wpAnyIn (Fw ro) 0 P .any ops Q fuel listed a w:=by
 have hsz:ops.size=L.length:=by rw[←Array.length_toList,hl,List.length_map]
 have hop:∀(i:Nat) r,L[i]? =some r→ops[i]? =some r.o:=fun i r hi=>by rw[←Array.getElem?_toList,hl,List.getElem?_map,hi]; rfl
 have gd:∀(listed:Array Bool) (i:Nat),listed.size=L.length→i<L.length→listed.getD i true=listed.getD i false:=fun listed i hs hi=>by
  rw[Array.getD_eq_getD_getElem?,Array.getD_eq_getD_getElem?,Array.getElem?_eq_getElem (by omega)]; rfl
 have done:∀(listed:Array Bool) (j:J) (a:Act) (w:World),listed.size=L.length→dd ops (fun i=>listed.getD i false)→Rel ρ n X W0 fb (part (fun i=>listed.getD i false) 0 L F0) j a w→Region.ready .any ops listed=[]→Q .normal a w:=by
  intro listed j a w hs hc h hnil
  refine hQ j a w ?_
  have hall:∀i,i<L.length→listed.getD i false=true:=by
   intro i
   induction i using Nat.strongRecOn with
   | _ i ih=>
     intro hi
     cases hb:listed.getD i false with
     | true=>rfl
     | false=>
       exfalso
       have:i∈Region.ready .any ops listed:=by
        unfold Region.ready
        simp only[List.mem_filter,List.mem_range,Bool.and_eq_true,Bool.not_eq_true']
        obtain⟨r,hr'⟩:∃r,L[i]? =some r:=⟨L[i],List.getElem?_eq_getElem hi⟩
        have ho:=hop i r hr'
        refine⟨by omega,?_,?_⟩
        ·rw[gd listed i hs hi]; exact hb
        ·rw[ho]
         simp only[Option.map_some,Option.getD_some,Array.all_eq_true_iff_forall_mem,Bool.or_eq_true,Bool.not_eq_true']
         intro e he
         cases hbd:Region.binds .any e with
         | false=>exact .inl rfl
         | true=>
           have hlt:=hback i _ ho e he hbd
           exact .inr (ih e.on hlt (by omega))
       rw[hnil] at this
       cases this
  rw[oq L 0 F0 (fun m hm=>by simpa using hall m hm)] at h
  exact h
 intro fuel
 induction fuel with
 | zero=>
   intro listed j a w hs hc hf h
   have hall:∀i,i<L.length→listed.getD i false=true:=fun i hi=>by
    have:=List.countP_eq_zero.1 (Nat.le_zero.1 hf) i (List.mem_range.2 hi)
    simpa using this
   have hnil:Region.ready .any ops listed=[]:=by
    unfold Region.ready
    rw[List.filter_eq_nil_iff]
    intro i hi
    have hi':i<L.length:=by rw[List.mem_range] at hi; omega
    rw[gd listed i hs hi',hall i hi']
    simp
   exact⟨hnil,done listed j a w hs hc h hnil⟩
 | succ fuel ih=>
   intro listed j a w hs hc hf h
   refine⟨fun hnil=>done listed j a w hs hc h hnil,fun i hi=> ?_⟩
   obtain⟨hun,o,ho,hall⟩:=mem_ready.1 hi
   have hi':i<L.length:=by
    rw[←hsz]
    rcases Nat.lt_or_ge i ops.size with h1 | h1
    ·exact h1
    ·rw[Array.getElem?_eq_none h1] at ho; cases ho
   obtain⟨r,hr'⟩:∃r,L[i]? =some r:=⟨L[i],List.getElem?_eq_getElem hi'⟩
   have ho':=hop i r hr'
   rw[ho] at ho'
   cases ho'
   have hun':listed.getD i false=false:=by rw[←gd listed i hs hi']; exact hun
   have hsplit:L=L.take i++r::L.drop (i+1):=by
    rw[List.getElem?_eq_getElem hi'] at hr'
    cases hr'
    simp
   have hlen:(L.take i).length=i:=by simp; omega
   have hpre:∀(m:Nat) x,(L.take i)[m]? =some x→listed.getD (0+m) false=false→Indep ops x r:=by
    intro m x hm hsel
    have hmi:m<i:=by
     rcases Nat.lt_or_ge m i with h1 | h1
     ·exact h1
     ·rw[List.getElem?_eq_none (by omega)] at hm; cases hm
    rw[List.getElem?_take_of_lt hmi] at hm
    rcases hpair m i x r hmi hm hr' with h1 | h1
    ·exact h1
    ·exfalso
     have:=h1 (fun i=>listed.getD i false) hc (fun o' ho2 e he hb=>by
      rw[ho] at ho2; cases ho2
      exact hall e he hb)
     simp only[Nat.zero_add] at hsel
     rw[hsel] at this
     cases this
   have hpost:∀(m:Nat) x,(L.drop (i+1))[m]? =some x→listed.getD (i+1+m) false=true→Indep ops x r:=by
    intro m x hm hsel
    rw[List.getElem?_drop] at hm
    rcases hpair i (i+1+m) r x (by omega) hr' hm with h1 | h1
    ·exact h1.symm
    ·exfalso
     have:=h1 (fun i=>listed.getD i false) hc (fun o' ho2 e he hb=>hc (i+1+m) o' ho2 hsel e he hb)
     rw[hun'] at this
     cases this
   have hF:part (fun i=>listed.getD i false) 0 L F0=part (fun i=>listed.getD i false) (i+1) (L.drop (i+1)) (part (fun i=>listed.getD i false) 0 (L.take i) F0):=by
    conv=>lhs; rw[hsplit]
    rw[fk,hlen,Nat.zero_add]
    simp only[part,hun']
    rfl
   have hag:Agree ops r (full (L.take i) F0) (part (fun i=>listed.getD i false) 0 L F0):=by
    rw[hF]
    exact ij _ _ _ _ (ky _ 0 _ _ (Agree.refl ops r F0) hpre) hpost
   have hok:=(hr i r hr').agree hag
   refine ey h hok ho (fun j' a' w' h'=> ?_)
   have hsz':(listed.setIfInBounds i true).size=L.length:=by simp[hs]
   have hget:∀k,(listed.setIfInBounds i true).getD k false=if k=i then true else listed.getD k false:=by
    intro k
    rw[Array.getD_eq_getD_getElem?,Array.getElem?_setIfInBounds]
    by_cases hk:k=i
    ·subst hk
     simp[hs,hi']
    ·have hik:¬i=k:=fun e=>hk e.symm
     simp[hk,hik,Array.getD_eq_getD_getElem?]
   refine ih _ j' a' w' hsz' ?_ ?_ ?_
   ·intro k o' hk hsel e he hb
    simp only[hget] at hsel ⊢
    by_cases hki:k=i
    ·subst hki
     rw[ho] at hk; cases hk
     split
     ·rfl
     ·exact hall e he hb
    ·rw[if_neg hki] at hsel
     split
     ·rfl
     ·exact hc k o' hk hsel e he hb
   ·have:(List.range L.length).countP (fun k=>!(listed.setIfInBounds i true).getD k false)<(List.range L.length).countP (fun k=>!listed.getD k false):=by
     have e1:(List.range L.length)=List.range i++i::(List.range' (i+1) (L.length-(i+1))):=by
      have h1:i::List.range' (i+1) (L.length-(i+1))=List.range' i (L.length-i):=by
       rw[show L.length-i=(L.length-(i+1))+1 by omega,List.range'_succ]
      have h2:=List.range'_append_1 (s:=0) (m:=i) (n:=L.length-i)
      rw[Nat.zero_add,show i+(L.length-i)=L.length by omega] at h2
      rw[h1,List.range_eq_range',List.range_eq_range',h2]
     rw[e1,List.countP_append,List.countP_append,List.countP_cons,List.countP_cons]
     have c1:∀l:List Nat,i ∉ l→l.countP (fun k=>!(listed.setIfInBounds i true).getD k false)=l.countP (fun k=>!listed.getD k false):=by
      intro l hl'
      apply List.countP_congr
      intro k hk
      have:k≠i:=fun e=>hl' (e▸hk)
      simp only[hget,this,if_false]
     rw[c1 _ (by simp),c1 _ (by rw[List.mem_range'_1]; omega)]
     simp[hget,hun']
    omega
   ·have:part (fun k=>(listed.setIfInBounds i true).getD k false) 0 L F0=(part (fun i=>listed.getD i false) 0 L F0).rec' r:=by
     rw[hF]
     conv=>lhs; rw[hsplit]
     rw[fk,hlen,Nat.zero_add]
     simp only[part,hget,if_true]
     rw[gU (sel':=fun i=>listed.getD i false) (L.take i) 0 F0 (fun m hm=>by
      have:m≠i:=by rw[hlen] at hm; omega
      simp[this])]
     rw[gU (sel':=fun i=>listed.getD i false) (L.drop (i+1)) (i+1) _ (fun m hm=>by
      have:¬i+1+m=i:=by omega
      simp[this])]
     exact ml _ _ _ hpost
    rw[this]
    exact h'
end
end Go.Proofs.Ytghiofgomcihcaa
