import Derived.Test.YtghiofgomcihcaaSyM3
set_option linter.unusedVariables false
set_option linter.unusedSimpArgs false
namespace Go.Proofs.Ytghiofgomcihcaa
open Go Go.RowKit
section
variable {P:Program} {sp:Spec} {ρ:Env} {G:Env→E→Prop} {I:Nat→List Dt→Prop} {cx:Cx} {cl:ClK} {n:Nat} {X:List Value} {W0:Wb} {ro:Option Nat} {ry:Option RfS} {rl:Option RlK}
theorem tk (tm:Nat→V) (heap:List Ob) (y:Lp):fsOf tm (heap++[.loop y])=(fsOf tm heap).setl heap.length (some y):=by
 refine FS.ext' (fun _=>rfl) (fun b=> ?_) (fun b=> ?_) (fun b=> ?_)
 ·simp only[FS.setl,fsOf,boxH]
  rcases Nat.lt_trichotomy b heap.length with h | h | h
  ·rw[List.getElem?_append_left h]
  ·subst h; simp
  ·rw[List.getElem?_eq_none (by simp; omega),List.getElem?_eq_none (by omega)]
 ·simp only[FS.setl,fsOf,rowH]
  rcases Nat.lt_trichotomy b heap.length with h | h | h
  ·rw[List.getElem?_append_left h]
  ·subst h; simp
  ·rw[List.getElem?_eq_none (by simp; omega),List.getElem?_eq_none (by omega)]
 ·simp only[FS.setl,fsOf,lpH]
  rcases Nat.lt_trichotomy b heap.length with h | h | h
  ·rw[List.getElem?_append_left h,if_neg (by omega)]
  ·subst h; simp
  ·rw[List.getElem?_eq_none (by simp; omega),List.getElem?_eq_none (by omega),if_neg (by omega)]
theorem lc {tm:Nat→V} {heap:List Ob} {id:Nat} {y:Lp} (h:heap[id]? =some (.loop y)) (y':Lp):fsOf tm (heap.set id (.loop y'))=(fsOf tm heap).setl id (some y'):=by
 have hlt:=(List.getElem?_eq_some_iff.1 h).1
 refine FS.ext' (fun _=>rfl) (fun b=> ?_) (fun b=> ?_) (fun b=> ?_)
 ·simp only[FS.setl,fsOf,boxH,List.getElem?_set]
  by_cases e:id=b
  ·subst e; simp only[if_true,hlt,h]
  ·simp only[e,if_false]
 ·simp only[FS.setl,fsOf,rowH,List.getElem?_set]
  by_cases e:id=b
  ·subst e; simp only[if_true,hlt,h]
  ·simp only[e,if_false]
 ·simp only[FS.setl,fsOf,lpH,List.getElem?_set]
  by_cases e:id=b
  ·subst e; simp only[if_true,hlt]
  ·rw[if_neg e,if_neg (fun e'=>e e'.symm)]
theorem to {tm:Nat→V} {heap:List Ob} {id:Nat} {y:Lp} (h:heap[id]? =some (.loop y)):fsOf tm (heap.set id .gone)=(fsOf tm heap).endl id:=by
 have hlt:=(List.getElem?_eq_some_iff.1 h).1
 refine FS.ext' (fun _=>rfl) (fun b=> ?_) (fun b=> ?_) (fun b=> ?_)
 ·simp only[FS.endl,fsOf,boxH,List.getElem?_set]
  by_cases e:id=b
  ·subst e; simp only[if_true,hlt,h]
  ·simp only[e,if_false]
 ·simp only[FS.endl,fsOf,rowH,List.getElem?_set]
  by_cases e:id=b
  ·subst e; simp only[if_true,hlt]
  ·rw[if_neg e,if_neg (fun e'=>e e'.symm)]
 ·simp only[FS.endl,fsOf,lpH,List.getElem?_set]
  by_cases e:id=b
  ·subst e; simp only[if_true,hlt]
  ·rw[if_neg e,if_neg (fun e'=>e e'.symm)]
theorem ix {heap:List Ob} {id:Nat} {y:Lp}:lpH heap id=some y↔heap[id]? =some (.loop y):=by
 unfold lpH
 constructor
 ·intro h
  split at h
  ·rename_i y' hy; cases h; exact hy
  ·cases h
 ·intro h; rw[h]
theorem abl {heap:List Ob} (h:mr heap=true) (i:Nat):lpH heap i=none:=by
 cases hl:lpH heap i with
 | none=>rfl
 | some y=>
   have:=List.all_eq_true.1 h _ (List.mem_of_getElem? (ix.1 hl))
   cases this
theorem wq {heap:List Ob} {id:Nat} (h:mr (heap.set id .gone)=true) (i:Nat) (y:Lp) (hy:lpH heap i=some y):i=id:=by
 refine Classical.byContradiction fun hne=> ?_
 have h1:=abl h i
 have h2:=ix.1 hy
 have:(heap.set id .gone)[i]? =some (.loop y):=by rw[List.getElem?_set,if_neg (fun e=>hne e.symm)]; exact h2
 rw[ix.2 this] at h1
 cases h1
theorem sr {s:St} {j:J} {a:Act} {w:World} {W0:Wb} {f:Operand} {id g:Nat} {args:List V} (hr:At cx ρ n X W0 s j a w) (h:oW (evS s.n s.tmps f) id=some (g,args)):
  ∃x y:List Value,a.eval f=.func (.func g) x.toArray y.toArray∧∀(j1:J) (l:Nat),Sub j j1→j1.g.y id=some l→(x++[Value.func (.yield l) #[] #[]]++y).length=args.length∧∀(i:Nat) v,args[i]? =some v→∃u,(x++[Value.func (.yield l) #[] #[]]++y)[i]? =some u∧v.den ρ j1=some u:=by
 have mid:∀(j1:J) (l:Nat),j1.g.y id=some l→∀(i:Nat) v,[V.one (.yld id)][i]? =some v→∃u,[Value.func (.yield l) #[] #[]][i]? =some u∧v.den ρ j1=some u:=by
  intro j1 l hl i v hv
  cases i with
  | zero=>
    simp only[List.getElem?_cons_zero,Option.some.injEq] at hv
    subst hv
    exact⟨_,rfl,by simp only[V.den,C.den,hl,Option.map_some]⟩
  | succ i=>simp at hv
 unfold oW at h
 split at h
 ·rename_i g' hf
  cases h
  have h4:=hr.ev hf
  exact⟨[],[],(Option.some.inj h4).symm,fun j1 l hs hl=>⟨rfl,by simpa using mid j1 l hl⟩⟩
 ·rename_i g' fs ps hf
  cases h
  obtain⟨x,y,hx,hy,h5⟩:=cC (show cloV g (bU j fs) (bU j ps)=some (a.eval f) from hr.ev hf)
  obtain⟨e1,e2⟩:=gv (ρ:=ρ) hx
  obtain⟨e3,e4⟩:=gv (ρ:=ρ) hy
  have up:∀{j1:J} (hs:Sub j j1) {l:List V} {us:List Value},(∀(i:Nat) v,l[i]? =some v→∃u,us[i]? =some u∧v.den ρ j=some u)→∀(i:Nat) v,l[i]? =some v→∃u,us[i]? =some u∧v.den ρ j1=some u:=fun hs l us hh i v hv=>by
   obtain⟨u,h1,h2⟩:=hh i v hv
   exact⟨u,h1,V.den_sub hs h2⟩
  exact⟨x,y,h5,fun j1 l hs hl=>⟨by simp only[List.length_append,e1,e3,List.length_singleton],jb (by simp only[List.length_append,e1,List.length_singleton]) (jb e1 (up hs e2) (mid j1 l hl)) (up hs e4)⟩⟩
 ·cases h
theorem jc (hcl:CallOk P sp G cx ry cl) (hrl:∀f,rl=some f→ro=none∧∀r,CallOk P sp G cx (some r) (f r)) (hm:P.follows .mixedOrders=true) (hT:∀t i,(t,i)∈cx.ty→TIok P t i) (hS:∀s∈cx.sm,SmOk P sp s) (hkeys:∀s∈cx.sm,∀s'∈cx.sm,s.key=s'.key→s=s') (fuel:Nat):
  ∀(c:Code) (W0:Wb) (s:St) (kw:Kw) (k:Sig→St→Kw→Tr) (Q:Exit→Act→World→Prop) (ρ:Env) (I:Nat→List Dt→Prop) (j:J) (a:Act) (w:World),Tie ry X W0→(rl.isSome=true→W0.top=true∧W0.rf=none)→(cF cl rl cx fuel c s kw k).holds sp G ρ I→Good sp cx.sm ρ kw→At cx ρ n X W0 s j a w→
   (∀M' sg s' kw' ρ' I' j' a' w',(rl=none→M'=W0.M)→(k sg s' kw').holds sp G ρ' I'→Good sp cx.sm ρ' kw'→Ag kw.vk.length ρ ρ'→(∀m,m<kw.lv→I' m=I m)→kw.lv≤kw'.lv→kw.vk.length≤kw'.vk.length→At cx ρ' n X {W0 with M:=M'} s' j' a' w'→Q sg.exit' a' w')→c.wpIn (Fw ro) 0 P Q a w:=by
 intro c
 induction c with
 | skip=>intro W0 s kw k Q ρ I j a w ht hrt h hg hr hQ; exact wpIn_skip (hQ W0.M _ _ _ _ _ _ _ _ (fun _=>rfl) h hg (.refl _ _) (fun _ _=>rfl) (Nat.le_refl _) (Nat.le_refl _) hr)
 | label l=>intro W0 s kw k Q ρ I j a w ht hrt h hg hr hQ; exact wpIn_label (hQ W0.M _ _ _ _ _ _ _ _ (fun _=>rfl) h hg (.refl _ _) (fun _ _=>rfl) (Nat.le_refl _) (Nat.le_refl _) hr)
 | exit id=>intro W0 s kw k Q ρ I j a w ht hrt h hg hr hQ; exact wpIn_exit (hQ W0.M (.exit id) _ _ _ _ _ _ _ (fun _=>rfl) h hg (.refl _ _) (fun _ _=>rfl) (Nat.le_refl _) (Nat.le_refl _) hr)
 | ret=>intro W0 s kw k Q ρ I j a w ht hrt h hg hr hQ; exact wpIn_ret (hQ W0.M .ret _ _ _ _ _ _ _ (fun _=>rfl) h hg (.refl _ _) (fun _ _=>rfl) (Nat.le_refl _) (Nat.le_refl _) hr)
 | scope c ih=>
   intro W0 s kw k Q ρ I j a w ht hrt h hg hr hQ
   refine eZ (ih W0 s kw k _ ρ I j a w ht hrt h hg hr fun M' sg s' kw' ρ' I' j' a' w' q0 q1 q2 q3 q4 q5 q6 q7=> ?_)
   have:=hQ M' sg s' kw' ρ' I' j' a' w' q0 q1 q2 q3 q4 q5 q6 q7
   cases sg<;>exact this
 | region id ops draw=>
   intro W0 s kw k Q ρ I j a w ht hrt h hg hr hQ
   simp only[cF] at h
   split at h
   ·obtain⟨rs,s',kw',h1,g1,l1,h2,h3,h4,h5⟩:=ed (P:=P) (base:=W0.heap.size) hT hS hkeys ops.toList s kw _ h hg hr.le
    rw[hr.own] at h5
    have fin:∀j' a' w',(k .normal s' kw').holds sp G ρ I→Rel ρ n X W0 cx.fbs (full rs s.fs) j' a' w'→Q .normal a' w':=fun j' a' w' hk hr'=>
     hQ W0.M .normal s' kw' ρ I j' a' w' (fun _=>rfl) hk g1 (.refl _ _) (fun _ _=>rfl) (by rw[l1.lv]; exact Nat.le_refl _) l1.vk ⟨by rw[h3]; exact hr',by rw[h4.1]; exact hr.len,by rw[h4.2]; exact hr.own⟩
    cases draw with
    | false=>
      refine wpIn_region ?_
      have hsz:ops.size=rs.length:=by rw[←Array.length_toList,←h2,List.length_map]
      rw[hsz,List.range_eq_range']
      exact kQ (P:=P) rs [] s.fs (by simpa using h2.symm) (by simpa using h5) (by simpa[full] using hr.rel) (fun j' a' w' hr'=>fin j' a' w' h1 (by simpa using hr'))
    | true=>
      simp only[if_true] at h1
      split at h1
      ·rename_i hord
       obtain⟨g2,g3⟩:=wm (ops:=ops) zM rs [] [] (by simpa using h2.symm) hord rfl (fun i hi=>by simp at hi)
       refine wpIn_region_any hm ?_
       have hsz:ops.size=rs.length:=by rw[←Array.length_toList,←h2,List.length_map]
       refine sU (F0:=s.fs) (L:=rs) h2.symm h5 (fun i o ho e he hb=> ?_) (fun k i x r hk hx hri=>by simpa using g3 k i x r hk (Nat.zero_le _) (by simpa using hx) (by simpa using hri)) (fun j' a' w' hr'=>fin j' a' w' h1 hr') ops.size (Array.replicate ops.size false) j a _ (by simp[hsz]) ?_ ?_ ?_
       ·have hlt:i<rs.length:=by
         rw[←hsz]
         rcases Nat.lt_or_ge i ops.size with h6 | h6
         ·exact h6
         ·rw[Array.getElem?_eq_none h6] at ho; cases ho
        have hri:rs[i]? =some rs[i]:=List.getElem?_eq_getElem hlt
        have:=zM i _ rs h2.symm hri
        rw[ho] at this
        cases this
        exact g2 i _ (Nat.zero_le _) (by simp) e he hb
       ·intro i o _ hs
        simp only[Array.getD_eq_getD_getElem?,Array.getElem?_replicate] at hs
        split at hs<;>simp at hs
       ·exact Nat.le_trans List.countP_le_length (by simp[hsz])
       ·rw[om rs 0 s.fs (fun m hm=>by
         simp only[Array.getD_eq_getD_getElem?,Array.getElem?_replicate]
         split<;>simp)]
        exact hr.rel.more (Ext.refl w).drew
      ·exact h1.elim
   ·have hK:∀s' kw' ρ' I' j' a' w',(k .normal s' kw').holds sp G ρ' I'→Good sp cx.sm ρ' kw'→Nx kw kw' ρ ρ' I I'→At cx ρ' n X W0 s' j' a' w'→Q .normal a' w':=
     fun s' kw' ρ' I' j' a' w' q1 q2 q3 q4=>hQ W0.M .normal s' kw' ρ' I' j' a' w' (fun _=>rfl) q1 q2 q3.ag q3.inv q3.lv q3.vk q4
    cases draw with
    | false=>
      refine wpIn_region ?_
      rw[List.range_eq_range',←Array.length_toList]
      exact wd hT hS hkeys ⟨hcl,ht⟩ ops.toList 0 (fun m o hm=>by rw[Nat.zero_add,←Array.getElem?_toList]; exact hm) s kw _ ρ I j a w h hg hr hK
    | true=>
      simp only[if_true] at h
      split at h
      ·rename_i hb
       refine wpIn_region_any hm ?_
       refine fF (Q:=fun e a w=>e=.normal∧Q .normal a w) (fun e a w h=>by rw[h.1]; exact h.2) _ _ _ _ ?_
       have hnd:((cB 0 ops.toList).map (·.1)).Nodup:=by rw[kn]; exact List.nodup_range'
       have gd:∀i,i<ops.size→(Array.replicate ops.size false).getD i false=false:=fun i hi=>by
        rw[Array.getD_eq_getD_getElem?,Array.getElem?_replicate,if_pos hi]; rfl
       refine aaX (W0:=W0) (n:=n) (X:=X) hT hS hkeys ⟨hcl,ht⟩ hb (fun c a w h=>by cases h.1) _ _ s kw _ ρ I _ j a _ h hg ⟨hr.rel.more (Ext.refl w).drew,hr.len,hr.own⟩ (fun p hp=>xg hp) hnd (by simp) ?_ (fun i hi=>⟨fun _=> ?_,fun _=>gd i hi⟩)
        (fun s' kw' ρ' I' j' a' w' q1 q2 q3 q4=>⟨rfl,hK s' kw' ρ' I' j' a' w' q1 q2 q3 q4⟩) ops.size ?_
       ·intro i o ho hs
        have:=gd i (Array.getElem?_eq_some_iff.1 ho).1
        exact Bool.noConfusion (hs.symm.trans this)
       ·have:i∈(cB 0 ops.toList).map (·.1):=by rw[kn,List.mem_range'_1]; simp; exact hi
        obtain⟨p,hp,e⟩:=List.mem_map.1 this
        exact⟨p,hp,e⟩
       ·exact Nat.le_trans List.countP_le_length (by simp)
      ·exact h.elim
 | seq x y ihx ihy=>
   intro W0 s kw k Q ρ I j a w ht hrt h hg hr hQ
   simp only[cF] at h
   split at h
   ·refine wpIn_seq (ihx W0 s kw _ _ ρ I j a w ht hrt h hg hr (fun M' sg s' kw' ρ' I' j' a' w' hM' h' hg' ha' hI' hl' hv' hr'=> ?_))
    cases sg with
    | normal=>exact ihy {W0 with M:=M'} s' kw' k Q ρ' I' j' a' w' ht hrt h' hg' hr' (fun M2 sg s2 kw2 ρ2 I2 j2 a2 w2 hM2 h2 hg2 ha2 hI2 hl2 hv2 hr2=>hQ M2 sg s2 kw2 ρ2 I2 j2 a2 w2 (fun e=>(hM2 e).trans (hM' e)) h2 hg2 (ha'.trans (ha2.mono hv')) (fun m hm=>(hI2 m (by omega)).trans (hI' m hm)) (by omega) (by omega) hr2)
    | exit id=>exact hQ M' (.exit id) s' kw' ρ' I' j' a' w' hM' h' hg' ha' hI' hl' hv' hr'
    | ret=>exact hQ M' .ret s' kw' ρ' I' j' a' w' hM' h' hg' ha' hI' hl' hv' hr'
   ·rename_i id pls _
    split at h
    ·refine wpIn_seq (ihx W0 s kw _ _ ρ I j a w ht hrt h hg hr (fun M' sg s' kw' ρ' I' j' a' w' hM' h' hg' ha' hI' hl' hv' hr'=> ?_))
     cases sg with
     | normal=>exact h'.elim
     | exit id=>exact hQ M' (.exit id) s' kw' ρ' I' j' a' w' hM' h' hg' ha' hI' hl' hv' hr'
     | ret=>exact hQ M' .ret s' kw' ρ' I' j' a' w' hM' h' hg' ha' hI' hl' hv' hr'
    ·split at h
     ·rename_i hd vks habs
      have hlen:hd.tmps.length=n+X.length∧hd.n=n:=⟨(eL habs).1.trans hr.len,(eL habs).2.trans hr.own⟩
      obtain⟨inv,hpre,hbody⟩:=h
      refine wpIn_seq (ihx W0 s {kw with lv:=kw.lv+1} _ _ ρ (upd I kw.lv inv) j a w ht hrt hpre ⟨hg.pc,hg.vk,hg.log⟩ hr (fun M' sg s' kw' ρ' I' j' a' w' hM' h' hg' ha' hI' hl' hv' hr'=> ?_))
      have below:∀m,m<kw.lv→I' m=I m:=fun m hm=>(hI' m (by show m<kw.lv+1; omega)).trans (mV I inv (by omega))
      cases sg with
      | normal=>
        obtain⟨ds,h1,h2,j3,h3⟩:=rA (ρ:=ρ) h' hg'.vk hlen ha' hr'
        rw[hI' kw.lv (Nat.lt_succ_self _),am] at h1
        obtain⟨ρ2,g1,g2,g3⟩:=hbody ds h2 h1
        refine ihy {W0 with M:=M'} hd (kw.head vks) k Q ρ2 I j3 a' w' ht hrt g3 (gj hg g1 (by rw[g2]; exact h2)) (h3 ρ2 g1 g2) (fun M2 sg s2 kw2 ρ3 I2 j2 a2 w2 hM2 h2 hg2 ha2 hI2 hl2 hv2 hr2=>hQ M2 sg s2 kw2 ρ3 I2 j2 a2 w2 (fun e=>(hM2 e).trans (hM' e)) h2 hg2 (g1.trans (ha2.mono ?_)) (fun m hm=>hI2 m ?_) ?_ ?_ hr2)
        ·simp[Kw.head]
        ·show m<kw.lv+1; omega
        ·have:kw.lv+1≤kw2.lv:=hl2
         omega
        ·have:(kw.vk++vks).length≤kw2.vk.length:=hv2
         rw[List.length_append] at this
         omega
      | exit id=>exact hQ M' (.exit id) s' kw' ρ' I' j' a' w' hM' h' hg' ha' below (by have:kw.lv+1≤kw'.lv:=hl'; omega) hv' hr'
      | ret=>exact hQ M' .ret s' kw' ρ' I' j' a' w' hM' h' hg' ha' below (by have:kw.lv+1≤kw'.lv:=hl'; omega) hv' hr'
     ·exact h.elim
 | cond c x y ihx ihy=>
   intro W0 s kw k Q ρ I j a w ht hrt h hg hr hQ
   simp only[cF] at h
   split at h
   ·rename_i e he
    have hc:a.eval c=.bool (e.B ρ):=by
     exact ez (hr.ev he)
    obtain⟨kw1,h1,g1,v1,l1⟩:=ak _ _ _ h hg
    have hQ':∀M' sg s' kw' ρ' I' j' a' w',(rl=none→M'=W0.M)→(k sg s' kw').holds sp G ρ' I'→Good sp cx.sm ρ' kw'→Ag kw1.vk.length ρ ρ'→(∀m,m<kw1.lv→I' m=I m)→kw1.lv≤kw'.lv→kw1.vk.length≤kw'.vk.length→At cx ρ' n X {W0 with M:=M'} s' j' a' w'→Q sg.exit' a' w':=by
     intro M' sg s' kw' ρ' I' j' a' w' hM' h' hg' ha' hI' hl' hv' hr'
     rw[v1] at ha' hv'
     rw[l1.lv] at hI' hl'
     exact hQ M' sg s' kw' ρ' I' j' a' w' hM' h' hg' ha' hI' hl' hv' hr'
    refine wpIn_cond_split hc (fun hcb=> ?_) (fun hcb=> ?_)
    ·rw[hcb] at h1
     exact ihx W0 s kw1 k Q ρ I j a w ht hrt h1 g1 hr hQ'
    ·rw[hcb] at h1
     exact ihy W0 s kw1 k Q ρ I j a w ht hrt h1 g1 hr hQ'
   ·exact h.elim
 | block id c ih=>
   intro W0 s kw k Q ρ I j a w ht hrt h hg hr hQ
   refine wpIn_block (ih W0 s kw _ _ ρ I j a w ht hrt h hg hr (fun M' sg s' kw' ρ' I' j' a' w' hM' h' hg' ha' hI' hl' hv' hr'=> ?_))
   cases sg with
   | normal=>exact hQ M' .normal s' kw' ρ' I' j' a' w' hM' h' hg' ha' hI' hl' hv' hr'
   | ret=>exact hQ M' .ret s' kw' ρ' I' j' a' w' hM' h' hg' ha' hI' hl' hv' hr'
   | exit i=>
     dsimp only at h'
     unfold Sig.exit' Exit.inBlock
     dsimp only
     split at h'
     ·rename_i hi
      rw[if_pos (Nat.eq_of_beq_eq_true hi)]
      exact hQ M' .normal s' kw' ρ' I' j' a' w' hM' h' hg' ha' hI' hl' hv' hr'
     ·rename_i hi
      rw[if_neg (fun e=>hi (by rw[e]; simp))]
      exact hQ M' (.exit i) s' kw' ρ' I' j' a' w' hM' h' hg' ha' hI' hl' hv' hr'
 | loop c ih=>
   intro W0 s kw k Q ρ I j a w ht hrt h hg hr hQ
   simp only[cF] at h
   split at h
   ·refine wpIn_loop_rounds fuel ?_
    have key:∀(m:Nat) (M:List Nat) (s:St) (kw2:Kw) (ρ2:Env) (I2:Nat→List Dt→Prop) (j:J) (a:Act) (w:World),(rl=none→M=W0.M)→(yN (cF cl rl cx fuel c) m s kw2 k).holds sp G ρ2 I2→Good sp cx.sm ρ2 kw2→Ag kw.vk.length ρ ρ2→(∀m,m<kw.lv→I2 m=I m)→kw.lv≤kw2.lv→kw.vk.length≤kw2.vk.length→At cx ρ2 n X {W0 with M:=M} s j a w→Code.roundsIn (Fw ro) 0 P c Q m a w:=by
     intro m
     induction m with
     | zero=>intro M s kw2 ρ2 I2 j a w hM h; exact h.elim
     | succ m ihm=>
       intro M s kw2 ρ2 I2 j a w hM h hg ha2 hI2 hl2 hv2 hr
       rw[roundsIn_succ]
       simp only[yN] at h
       refine ih {W0 with M:=M} s kw2 _ _ ρ2 I2 j a w ht hrt h hg hr (fun M' sg s' kw' ρ' I' j' a' w' hM' h' hg' ha' hI' hl' hv' hr'=> ?_)
       have ha3:Ag kw.vk.length ρ ρ':=ha2.trans (ha'.mono hv2)
       have hI3:∀m,m<kw.lv→I' m=I m:=fun m hm=>(hI' m (by omega)).trans (hI2 m hm)
       cases sg with
       | normal=>exact ihm M' s' kw' ρ' I' j' a' w' (fun e=>(hM' e).trans (hM e)) h' hg' ha3 hI3 (by omega) (by omega) hr'
       | exit id=>exact hQ M' (.exit id) s' kw' ρ' I' j' a' w' (fun e=>(hM' e).trans (hM e)) h' hg' ha3 hI3 (by omega) (by omega) hr'
       | ret=>exact hQ M' .ret s' kw' ρ' I' j' a' w' (fun e=>(hM' e).trans (hM e)) h' hg' ha3 hI3 (by omega) (by omega) hr'
    exact key fuel W0.M s kw ρ I j a w (fun _=>rfl) h hg (.refl _ _) (fun _ _=>rfl) (Nat.le_refl _) (Nat.le_refl _) hr
   ·rename_i id pls _
    split at h
    ·exact h.elim
    ·split at h
     ·rename_i hd vks θ ex habs harg
      split at h
      ·rename_i hok
       have hlen:hd.tmps.length=n+X.length∧hd.n=n:=⟨(eL habs).1.trans hr.len,(eL habs).2.trans hr.own⟩
       obtain⟨inv,μ,hinit,hbody⟩:=h
       obtain⟨d1,d2⟩:=kW hok hg.vk hlen (.refl _ _) hr
       have key:∀(m:Nat) (M:List Nat) (ds:List Dt) (a:Act) (w:World),(rl=none→M=W0.M)→μ ds<m→inv ds→okDs vks ds→xI cx n X {W0 with M:=M} ρ kw.vk.length vks hd ds a w→Code.roundsIn (Fw ro) 0 P c Q m a w:=by
        intro m
        induction m with
        | zero=>intro M ds a w _ h; omega
        | succ m ihm=>
          intro M ds a w hM hμ hin hds hat
          rw[roundsIn_succ]
          obtain⟨ρ2,g1,g2,g3⟩:=hbody ds hds hin
          obtain⟨j2,hj2⟩:=hat
          refine ih {W0 with M:=M} hd (kw.head vks) _ _ ρ2 _ j2 a w ht hrt g3 (gj hg g1 (by rw[g2]; exact hds)) (hj2 ρ2 g1 g2) (fun M' sg s' kw' ρ' I' j' a' w' hM' h' hg' ha' hI' hl' hv' hr'=> ?_)
          have hv2:kw.vk.length≤(kw.head vks).vk.length:=by simp[Kw.head]
          have ha3:Ag kw.vk.length ρ ρ':=g1.trans (ha'.mono hv2)
          have hI3:∀m,m<kw.lv→I' m=I m:=fun m hm=>(hI' m (by show m<kw.lv+1; omega)).trans (mV I _ (by omega))
          have hl3:kw.lv≤kw'.lv:=by have:kw.lv+1≤kw'.lv:=hl'; omega
          have hv3:kw.vk.length≤kw'.vk.length:=by omega
          cases sg with
          | normal=>
            obtain⟨ds',k1,k2,k3⟩:=rA (ρ:=ρ) h' hg'.vk hlen ha3 hr'
            rw[hI' kw.lv (Nat.lt_succ_self _),am] at k1
            exact ihm M' ds' a' w' (fun e=>(hM' e).trans (hM e)) (by omega) k1.1 k2 k3
          | exit id=>exact hQ M' (.exit id) s' kw' ρ' I' j' a' w' (fun e=>(hM' e).trans (hM e)) h' hg' ha3 hI3 hl3 hv3 hr'
          | ret=>exact hQ M' .ret s' kw' ρ' I' j' a' w' (fun e=>(hM' e).trans (hM e)) h' hg' ha3 hI3 hl3 hv3 hr'
       exact wpIn_loop_rounds (μ ((argE vks θ).D ρ)+1) (key _ W0.M _ a w (fun _=>rfl) (Nat.lt_succ_self _) hinit d1 d2)
      ·exact h.elim
     ·exact h.elim
 | rangeFunc f ps assign body=>
   intro W0 s kw k Q ρ I j a w ht hrt h hg hr hQ
   simp only[cF] at h
   split at h<;>first | exact h.elim | skip
   rename_i rlf g args hargs _ _
   split at h<;>first | exact h.elim | skip
   rename_i hck
   rw[Bool.and_eq_true] at hck
   have hgb:g<yB:=by simpa[Nat.blt_eq] using hck.1
   obtain⟨rfl,hcr⟩:=hrl _ rfl
   obtain⟨w0,M0,top0,rf0⟩:=W0
   obtain⟨htop,hrf⟩:=hrt rfl
   dsimp only at htop hrf
   subst htop hrf
   obtain⟨x,y,hev,hdens⟩:=sr hr hargs
   refine wpIn_rangeFunc fun fn _=> ?_
   obtain⟨o,ho⟩:∃o:Loop,o={state:=.ready,pending:=none,fn,tmps:=a.tmps,params:=ps,assign,body,defers:=w.heap.size}:=⟨_,rfl⟩
   obtain⟨rf,hrf⟩:∃rf:Rf,rf=⟨ps,assign,body,a.tmps,w.heap.size+1⟩:=⟨_,rfl⟩
   have hl:rf.l=w.heap.size+1:=by rw[hrf]
   have hfs:(St.mk s.tmps (s.heap++[.loop ⟨.ready,none⟩])).fs=s.fs.setl s.heap.length (some ⟨.ready,none⟩):=tk _ _ _
   have hrel:=hr.rel.loopNew (id:=s.heap.length) (ee (Nat.le_refl _)).1 (abl hck.2 _) rfl rfl hl (o:=o) ⟨by rw[ho]; rfl,by rw[ho]; rfl,by rw[ho,hrf],by rw[ho,hrf],by rw[ho,hrf],by rw[ho,hrf]⟩
   rw[←hfs] at hrel
   obtain⟨j1,hj1⟩:∃j1,j1=({j with g:=⟨fun b=>if b=s.heap.length then some rf.l else j.g.y b,fun k=>if k=rf.l then some (.loop o) else if k=w.heap.size then some (.deferred (some [])) else j.g.z k⟩}:J):=⟨_,rfl⟩
   rw[←hj1] at hrel
   have hy1:j1.g.y s.heap.length=some (w.heap.size+1):=by rw[hj1]; simp[hl]
   have hsub:Sub j j1:=by
    rw[hj1]
    exact⟨fun _ _ h=>h,fun _ _ h=>h,fun _ _ h=>h,fun b k hb=>by
     show(if b=s.heap.length then some rf.l else j.g.y b)=some k
     by_cases e:b=s.heap.length
     ·subst e; rw[hr.rel.gs.nol _ (ee (Nat.le_refl _)).1 (abl hck.2 _)] at hb; cases hb
     ·rw[if_neg e]; exact hb⟩
   obtain⟨hd1,hd2⟩:=hdens j1 (w.heap.size+1) hsub hy1
   have hlen:X.length=bV s.tmps.old:=by
    have h1:=hr.len
    have h2:=hr.own
    unfold TM.length at h1
    unfold St.n at h2
    omega
   have key:(callFunc g (x++[Value.func (.yield (w.heap.size+1)) #[] #[]]++y).toArray).run P ((w.alloc (.deferred (some []))).alloc (.loop o))=.ok (.enter g (x++[Value.func (.yield (w.heap.size+1)) #[] #[]]++y).toArray) ((w.alloc (.deferred (some []))).alloc (.loop o))∧
    Calls P g (x++[Value.func (.yield (w.heap.size+1)) #[] #[]]++y).toArray ((w.alloc (.deferred (some []))).alloc (.loop o)) fun e w'=>∃u,e=.returned u∧rangePost (Fw none) 0 P (w.heap.size+1) Q {a with defers:={target:=.collected w.heap.size,args:= #[]}::a.defers} (.returned u) w':=by
    refine(hcr ⟨ps,assign,body,bV s.tmps.old,s.n,cx.hints,cx.cuts⟩).call g args ⟨s.tmps,s.heap++[.loop ⟨.ready,none⟩]⟩ kw _ (fun u w'=>rangePost (Fw none) 0 P (w.heap.size+1) Q {a with defers:={target:=.collected w.heap.size,args:= #[]}::a.defers} (.returned u) w') ρ I n X _ j1 _ _ _ hgb h hg ⟨hrel,hr.len,hr.own⟩ ⟨rf,[],X,rfl,by rw[hrf],by rw[hrf],by rw[hrf],by rw[hrf]; exact hr.rel.size.trans hr.own.symm,by rw[hrf]; rfl,hlen⟩ hd1 hd2 (fun v s' kw' ρ' I' j' w' u h' hg' ha' hI' hl' hv' hvd hat=> ?_)
    split at h'<;>first | exact h'.elim | skip
    rename_i yy hyy
    have hy:s'.fs.lp s.heap.length=some yy:=ix.2 hyy
    obtain⟨rf',o',e1,e2,e3,e4,e5,e6⟩:=hat.rel.lpZ hy
    cases e1
    rw[hl] at e4
    have fin:∀(hb:yy.st≠.busy),mr (s'.heap.set s.heap.length .gone)=true→∃W4 j2,(Instr.endLoop (w.heap.size+1)).run P w'=.ok o'.pending W4∧At cx ρ' n X ⟨w0,w.heap.size::M0,true,none⟩ ⟨s'.tmps,s'.heap.set s.heap.length .gone⟩ j2 {a with defers:={target:=.collected w.heap.size,args:= #[]}::a.defers} W4:=by
     intro hb hn
     refine⟨_,j'.setz rf.l none,run_endLoop e4 (by rw[e5.st]; cases hs:yy.st<;>simp_all [LS.st]),⟨?_,hat.len,hat.own⟩⟩
     rw[show(St.mk s'.tmps (s'.heap.set s.heap.length .gone)).fs=s'.fs.endl s.heap.length from to hyy,←hl]
     exact hat.rel.loopEnd hy (fun i yi h=>wq hn i yi h) e3 _
    have out:∀sg:Option Sig,yy.pend=sg→yy.st≠.busy→mr (s'.heap.set s.heap.length .gone)=true→((match sg with | none=>k .normal ⟨s'.tmps,s'.heap.set s.heap.length .gone⟩ kw' | some .normal=>.stuck 207 | some sg=>k sg ⟨s'.tmps,s'.heap.set s.heap.length .gone⟩ kw':Tr).holds sp G ρ' I')→
     rangePost (Fw none) 0 P (w.heap.size+1) Q {a with defers:={target:=.collected w.heap.size,args:= #[]}::a.defers} (.returned u) w':=by
     intro sg hsg hb hn hh
     obtain⟨W4,j2,hrun,hat2⟩:=fin hb hn
     refine⟨_,_,hrun,?_⟩
     rw[e5.pend,hsg]
     rcases sg with _ | (_ | id | _)
     ·exact hQ _ .normal _ kw' ρ' I' j2 _ _ (fun e=>by cases e) hh hg' ha' hI' hl' hv' hat2
     ·exact hh.elim
     ·exact wpIn_exit (hQ _ (.exit id) _ kw' ρ' I' j2 _ _ (fun e=>by cases e) hh hg' ha' hI' hl' hv' hat2)
     ·exact wpIn_ret (hQ _ .ret _ kw' ρ' I' j2 _ _ (fun e=>by cases e) hh hg' ha' hI' hl' hv' hat2)
    obtain⟨st,pend⟩:=yy
    cases st with
    | busy=>exact h'.elim
    | ready=>
      dsimp only at h'
      split at h'
      ·rename_i hn
       exact out pend rfl (by simp) hn h'
      ·exact h'.elim
    | done=>
      dsimp only at h'
      split at h'
      ·rename_i hn
       exact out pend rfl (by simp) hn h'
      ·exact h'.elim
   obtain⟨hcf,hcall⟩:=key
   refine⟨w.heap.size+1,[{target:=.collected w.heap.size,args:= #[]}],(w.alloc (.deferred (some []))).alloc (.loop o),{target:=.fn (.func g) y.toArray,args:=x.toArray ++ #[.func (.yield (w.heap.size+1)) #[] #[]]},(w.alloc (.deferred (some []))).alloc (.loop o),g,(x++[Value.func (.yield (w.heap.size+1)) #[] #[]]++y).toArray,(w.alloc (.deferred (some []))).alloc (.loop o),?_,?_,fun _ _=>trivial,?_,rT,eI.2 (hcall.mono ?_)⟩
   ·rw[ho]; exact run_enterLoop_outer _ _ _ _ _
   ·simp only[resolve,hev,Deferred.ofValue,Sem.run_bind,Sem.run_pure,Result.andThen_ok]
    simp[Act.eval]
   ·have e:((x.toArray ++ #[Value.func (.yield (w.heap.size+1)) #[] #[]])++y.toArray)=(x++[Value.func (.yield (w.heap.size+1)) #[] #[]]++y).toArray:=by simp
    simp only[invoke,e]
    exact hcf
   ·rintro e w' ⟨u,rfl,hk⟩
    exact hk
 | _=>intro W0 s kw k Q ρ I j a w ht hrt h; exact h.elim
end
end Go.Proofs.Ytghiofgomcihcaa
