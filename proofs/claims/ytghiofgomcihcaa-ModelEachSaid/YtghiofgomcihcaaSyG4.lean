import Derived.Test.YtghiofgomcihcaaSyG6
set_option linter.unusedVariables false
set_option linter.unusedSimpArgs false
namespace Go.Proofs.Ytghiofgomcihcaa
open Go.RowKit
section
variable {P:Program} {sp:Spec} {ρ:Env} {G:Env→E→Prop} {I:Nat→List Dt→Prop} {base:Nat} {cx:Cx} {vw:Vw} {o:Oper} {k:Eff→Kw→Tr}
theorem abo {f:E→E→E} {g:Int→Int→Int} (hf:∀a b,(f a b).I ρ=g (a.I ρ) (b.I ρ)) {m2:Value→Value→Sem Value} {k0:IntKind} (hm:∀x y w,(m2 (.int k0 x) (.int k0 y)).run P w=.ok (.int k0 (g x y)) w) {j:J}:
  ∀(l:List V) (e e':E) (us:List Value),mmK f k0 e l=some e'→(∀(i:Nat) x u,l[i]? =some x→us[i]? =some u→x.den ρ j=some u)→us.length=l.length→∀w,(us.foldlM m2 (.int k0 (e.I ρ))).run P w=.ok (.int k0 (e'.I ρ)) w
 | [],e,e',us,h,hu,hl,w=>by
   cases h
   cases us with
   | nil=>simp
   | cons _ _=>cases hl
 | v::l,e,e',us,h,hu,hl,w=>by
   cases us with
   | nil=>cases hl
   | cons u us=>
     cases v with
     | one c=>
       cases c with
       | int kd x=>
         simp only[mmK] at h
         split at h
         ·rename_i hk
          have:=ao hk
          subst this
          have h1:=aQ (hu 0 _ u rfl rfl)
          subst h1
          have h2:=abo hf hm l (f e x) e' us h (fun i y u hy hu'=>hu (i+1) y u (by simpa using hy) (by simpa using hu')) (by simpa using hl) w
          rw[hf] at h2
          simp only[List.foldlM_cons,Sem.run_bind,hm,Result.andThen_ok,h2]
         ·cases h
       | _=>simp[mmK] at h
     | _=>simp[mmK] at h
theorem cj {c:Call} {a:Act}:(c.args.map a.eval).toList=c.args.toList.map a.eval:=Array.toList_map ..
theorem zp (mx:Bool) {c:Call} {kw:Kw} (hop:o.op=.call c) (hc:c.callee=.builtin (if mx then .max else .min)) {k0:IntKind} {e e':E} {l:List V} (hl:evL vw.ev c.args.toList=some (.one (.int k0 e)::l)) (he:mmK (if mx then wz else oA) k0 e l=some e')
  (h:(k {val:=.one (.int k0 e')} kw).holds sp G ρ I) (hg:Good sp cx.sm ρ kw):Sound P sp ρ G I base cx vw o k kw:=by
 refine⟨_,kw,h,hg,.refl _,OpOk.pure fun j a w _ hev _ _ _=>⟨.int k0 (e'.I ρ),rfl,?_⟩⟩
 obtain⟨h1,h2⟩:=dE (j:=j) (a:=a) hl (fun x hx=>hev x (by simp[hop,Op.operands,Call.operands]; exact .inr (by simpa using hx)))
 obtain⟨u,us,hus⟩:∃u us,c.args.toList.map a.eval=u::us:=by
  cases hm:c.args.toList.map a.eval with
  | nil=>rw[hm] at h2; cases h2
  | cons u us=>exact⟨u,us,rfl⟩
 rw[hus] at h1 h2
 have hu:=aQ (h1 0 _ u rfl rfl)
 subst hu
 have hlist:(c.args.map a.eval).toList=.int k0 (e.I ρ)::us:=by rw[cj,hus]
 cases mx with
 | true=>
   have h3:=abo (P:=P) (ρ:=ρ) (f:=wz) (g:=max) (abp ρ) (m2:=Builtin.max2) (k0:=k0) (fun x y w=>by simp[Builtin.max2,jZ.2]) l e e' us (by simpa using he) (fun i x u hx hu=>h1 (i+1) x u (by simpa using hx) (by simpa using hu)) (by simpa using h2) w
   simp only[execOp,hop,resolve,hc,if_true,Sem.run_bind,Sem.run_pure,Result.andThen_ok,invoke,builtin,Builtin.max_,hlist,h3]
 | false=>
   have h3:=abo (P:=P) (ρ:=ρ) (f:=oA) (g:=min) (wy ρ) (m2:=Builtin.min2) (k0:=k0) (fun x y w=>by simp[Builtin.min2,jZ.1]) l e e' us (by simpa using he) (fun i x u hx hu=>h1 (i+1) x u (by simpa using hx) (by simpa using hu)) (by simpa using h2) w
   simp only[execOp,hop,resolve,hc,Bool.false_eq_true,if_false,Sem.run_bind,Sem.run_pure,Result.andThen_ok,invoke,builtin,Builtin.min_,hlist,h3]
theorem acQ {vk:List VK} {ks:List CK} (hv:Vk ρ vk) (hr:(∀(n:Nat) k,ks[n]? =some (.int k)→inK k (ρ.i (vk.length+n))=true)∧∀(n:Nat) k ty,ks[n]? =some (.sl k ty)→RowsIn k (ρ.l (vk.length+n))):Vk ρ (vk++ks.map oS):=by
 constructor
 ·intro n kd h
  rcases Nat.lt_or_ge n vk.length with hlt | hge
  ·rw[List.getElem?_append_left hlt] at h
   exact hv.i n kd h
  ·rw[List.getElem?_append_right hge,List.getElem?_map,Option.map_eq_some_iff] at h
   obtain⟨c,hc,hk⟩:=h
   cases c<;>simp only[oS] at hk<;>first | cases hk | skip
   have:=hr.1 _ _ hc
   rwa [show vk.length+(n-vk.length)=n by omega] at this
 ·intro n kd h
  rcases Nat.lt_or_ge n vk.length with hlt | hge
  ·rw[List.getElem?_append_left hlt] at h
   exact hv.l n kd h
  ·rw[List.getElem?_append_right hge,List.getElem?_map,Option.map_eq_some_iff] at h
   obtain⟨c,hc,hk⟩:=h
   cases c<;>simp only[oS] at hk<;>first | cases hk | skip
   have:=hr.2 _ _ _ hc
   rwa [show vk.length+(n-vk.length)=n by omega] at this
theorem xi {vk:List VK} (hv:Vk ρ vk) {rw:Nat→Option RowOb} {k:CK} {c:C} {t e:E} (h:encC vk rw k c t=some e):ckIn k (e.D ρ) (t.D ρ):=by
 unfold encC at h
 split at h
 ·split at h
  ·rename_i hk
   cases h
   simp only[Bool.and_eq_true] at hk
   exact⟨_,rfl,E.rng_ok hv _ hk.2⟩
  ·cases h
 ·cases h; exact⟨_,rfl⟩
 ·split at h
  ·cases h; exact rfl
  ·cases h
 ·split at h
  ·cases h; exact rfl
  ·cases h
 ·rw[Option.map_eq_some_iff] at h
  obtain⟨l,hl,rfl⟩:=h
  refine⟨_,rfl,?_⟩
  unfold eP at hl
  split at hl
  ·split at hl
   ·split at hl
    ·rename_i hq
     simp only[Bool.and_eq_true] at hq
     cases hl
     exact E.lok_ok hv _ hq.2.2
    ·cases hl
   ·cases hl
  ·cases hl; intro r hr; cases hr
  ·cases hl
 ·cases h; exact rfl
 ·cases h; exact rfl
 ·cases h
theorem sd {vk:List VK} (hv:Vk ρ vk) {rw:Nat→Option RowOb}:∀{ks:List CK} {cs:List C} {t e:E},oN vk rw ks cs t=some e→tC ks (e.D ρ) (t.D ρ)
 | [],[],t,e,h=>by cases h; exact rfl
 | k::ks,c::cs,t,e,h=>by
   simp only[oN,Option.bind_eq_some_iff] at h
   obtain⟨e',h1,h2⟩:=h
   exact⟨_,xi hv h2,sd hv h1⟩
theorem pU {vk:List VK} (hv:Vk ρ vk) {rw:Nat→Option RowOb} {ks:List CK} {cs:List C} {t e:E} (h:encL vk rw ks cs t=some e):tC ks (e.D ρ) (t.D ρ):=sd hv (oM h)
theorem xk {vk:List VK} (hv:Vk ρ vk):∀{ss:List Sh} {xs:List V} {e:E},encA vk vw ss xs=some e→xD ss (e.D ρ)
 | [],[],e,h=>by cases h; exact rfl
 | s::ss,x::xs,e,h=>by
   simp only[encA,Option.bind_eq_some_iff] at h
   obtain⟨e',h1,h2⟩:=h
   refine⟨e'.D ρ,?_,xk hv h1⟩
   unfold encV at h2
   split at h2
   ·exact pU hv h2
   ·exact⟨_,xi hv h2,rfl⟩
   ·split at h2
    ·rw[Option.bind_eq_some_iff] at h2
     obtain⟨cs,_,h2⟩:=h2
     exact pU hv h2
    ·cases h2
   ·rw[Option.bind_eq_some_iff] at h2
    obtain⟨cs,_,h2⟩:=h2
    split at h2
    ·exact pU hv h2
    ·cases h2
   ·cases h2
theorem xh {vk:List VK} (hv:Vk ρ vk) {j:J} {w:World} {k:CK} {c:C} {t e:E} (hrr:RrOk ρ base j w vw.rw (cS [c])) (hd:k=.any→∃v,c.den ρ j=some v) (h:encC vk vw.tw k c t=some e):∃v,c.den ρ j=some v∧pY w k (e.D ρ) v (t.D ρ):=by
 unfold encC at h
 split at h
 ·split at h
  ·rename_i hk
   cases h
   simp only[Bool.and_eq_true] at hk
   refine⟨_,rfl,_,rfl,?_,E.rng_ok hv _ hk.2⟩
   rw[ao hk.1]
  ·cases h
 ·cases h; exact⟨_,rfl,_,rfl,rfl⟩
 ·split at h
  ·rename_i hg
   cases h
   refine⟨_,rfl,rfl,?_⟩
   rw[Nat.eq_of_beq_eq_true hg]
  ·cases h
 ·split at h
  ·rename_i hg
   cases h
   simp only[Bool.and_eq_true] at hg
   refine⟨_,rfl,rfl,?_⟩
   rw[ao hg.1,bH hg.2]
   rfl
  ·cases h
 ·rw[Option.map_eq_some_iff] at h
  obtain⟨l,hl,rfl⟩:=h
  unfold eP at hl
  split at hl
  ·rename_i id
   split at hl
   ·rename_i r hr
    split at hl
    ·rename_i hq
     simp only[Bool.and_eq_true] at hq
     cases hl
     obtain⟨hrw,hkd⟩:=Vw.tw_some hr
     obtain⟨s,hs,hok,hz⟩:=hrr id (by simp[cS]) r hrw
     have hks:=bg hq.1
     subst hks
     refine⟨s.v,by simp[C.den,hs],_,s,rfl,rfl,?_,?_,hok.rows,fun k hk=>hok.lt k (ba hk)⟩
     ·rcases bF r.ks with⟨_,h1⟩ | ⟨_,h1⟩
      ·exact(hok.2.2 (hkd.trans h1)).n
      ·exact(hok.1 (hkd.trans h1)).n
     ·unfold TRow
      rcases bF r.ks with⟨_,h1⟩ | ⟨_,h1⟩
      ·rw[h1]
       exact(hok.2.2 (hkd.trans h1)).told hz
      ·rw[h1]
       exact(hok.1 (hkd.trans h1)).rd
    ·cases hl
   ·cases hl
  ·cases hl
   refine⟨_,rfl,[],⟨none,0,0,[]⟩,rfl,rfl,rfl,TRow.nil,⟨fun r hr=>(by cases hr),by simp⟩,fun k hk=>(by cases hk)⟩
  ·cases hl
 ·cases h; exact⟨_,rfl,rfl,rfl⟩
 ·cases h
  obtain⟨v,hv⟩:=hd rfl
  exact⟨v,hv,rfl⟩
 ·cases h
theorem RrOk.mono {j:J} {w:World} {rw:Nat→Option RowOb} {l l':List Nat} (h:RrOk ρ base j w rw l) (hs:∀x∈l',x∈l):RrOk ρ base j w rw l':=fun id hid r hr=>h id (hs id hid) r hr
theorem kM {c:C} {cs:List C}:(∀x∈cS [c],x∈cS (c::cs))∧∀x∈cS cs,x∈cS (c::cs):=by
 cases c<;>simp[cS]<;>intro x hx<;>exact .inr hx
theorem rZ {vk:List VK} (hv:Vk ρ vk) {j:J} {w:World}:∀{ks:List CK} {cs:List C} {t e:E},RrOk ρ base j w vw.rw (cS cs)→(∀c∈cs,CK.any∈ks→∃v,c.den ρ j=some v)→oN vk vw.tw ks cs t=some e→∃vs,denL ρ j cs=some vs∧eX w ks (e.D ρ) vs (t.D ρ)
 | [],[],t,e,_,_,h=>by cases h; exact⟨[],rfl,rfl,rfl⟩
 | k::ks,c::cs,t,e,hrr,hd,h=>by
   simp only[oN,Option.bind_eq_some_iff] at h
   obtain⟨e',h1,h2⟩:=h
   obtain⟨vs,h3,h4⟩:=rZ hv (hrr.mono kM.2) (fun c hc ha=>hd c (List.mem_cons_of_mem _ hc) (List.mem_cons_of_mem _ ha)) h1
   obtain⟨v,h5,h6⟩:=xh hv (hrr.mono kM.1) (fun e=>hd c List.mem_cons_self (by rw[e]; exact List.mem_cons_self)) h2
   exact⟨v::vs,by simp[denL,h3,h5],v,vs,_,rfl,h6,h4⟩
theorem pT {vk:List VK} (hv:Vk ρ vk) {j:J} {w:World} {ks:List CK} {cs:List C} {t e:E} (hrr:RrOk ρ base j w vw.rw (cS cs)) (hd:∀c∈cs,CK.any∈ks→∃v,c.den ρ j=some v) (h:encL vk vw.tw ks cs t=some e):∃vs,denL ρ j cs=some vs∧eX w ks (e.D ρ) vs (t.D ρ):=rZ hv hrr hd (oM h)
theorem gQ {j:J} {w:World} {b kk:Nat} (hj:j.b b=some kk):∀{n off:Nat} {cs:List C},dX vw.ld b off n=some cs→RdOk ρ j w vw.ld (bG b off n)→cs.length=n∧∃vs,denL ρ j cs=some vs∧∀(m:Nat) u,vs[m]? =some u→w.cell? ⟨kk,off+m,none⟩=some u
 | 0,off,cs,h,_=>by cases h; exact⟨rfl,[],rfl,fun m u hu=>by simp at hu⟩
 | n+1,off,cs,h,hrd=>by
   simp only[dX] at h
   cases hc:vw.ld b off with
   | none=>rw[hc] at h; cases h
   | some c=>
     cases hl:dX vw.ld b (off+1) n with
     | none=>rw[hc,hl] at h; cases h
     | some l=>
       rw[hc,hl] at h; cases h
       obtain⟨k',v,h1,h2,h3⟩:=hrd (b,off) (by simp[bG]) c hc
       simp only at h1 h3
       rw[hj] at h1; cases h1
       obtain⟨e0,vs,e1,e2⟩:=gQ hj hl (fun p hp=>hrd p (by simp[bG]; exact .inr hp))
       refine⟨by simp[e0],v::vs,by simp[denL,h2,e1],fun m u hu=> ?_⟩
       cases m with
       | zero=>simp at hu; subst hu; exact h3
       | succ m=>
         have:=e2 m u (by simpa using hu)
         rwa [show off+(m+1)=off+1+m by omega]
theorem xj {vk:List VK} (hv:Vk ρ vk) {j:J} {w:World}:∀{ss:List Sh} {xs:List V} {e:E},RrOk ρ base j w vw.rw (dy vw ss xs)→RdOk ρ j w vw.ld (mQ ss xs)→FbOk ρ j w vw.fb→encA vk vw ss xs=some e→∀us:List Value,(∀(i:Nat) x u,xs[i]? =some x→us[i]? =some u→x.den ρ j=some u)→us.length=xs.length→iG w ss (e.D ρ) us
 | [],[],e,_,_,_,h,us,hu,hl=>by
   cases h
   cases us with
   | nil=>exact⟨rfl,rfl⟩
   | cons _ _=>cases hl
 | s::ss,x::xs,e,hrr,hrd,hfb,h,us,hu,hl=>by
   simp only[encA,Option.bind_eq_some_iff] at h
   obtain⟨e',h1,h2⟩:=h
   cases us with
   | nil=>cases hl
   | cons u us=>
     have h7:=hu 0 x u rfl rfl
     have tail:RrOk ρ base j w vw.rw (dy vw ss xs)→RdOk ρ j w vw.ld (mQ ss xs)→iG w ss (e'.D ρ) us:=fun a b=>
      xj hv a b hfb h1 us (fun i x u hx hu'=>hu (i+1) x u (by simpa using hx) (by simpa using hu')) (by simpa using hl)
     unfold encV at h2
     split at h2
     ·rename_i ks cs
      have hrr':RrOk ρ base j w vw.rw (cS cs++dy vw ss xs):=hrr
      have hcd:∀c∈cs,CK.any∈ks→∃v,c.den ρ j=some v:=fun c hc _=>by
       simp only[V.den,Option.map_eq_some_iff] at h7
       obtain⟨vs,h8,_⟩:=h7
       obtain⟨i,hi⟩:=List.getElem?_of_mem hc
       obtain⟨v,_,hv⟩:=bz h8 i c hi
       exact⟨v,hv⟩
      obtain⟨vs,h3,h4⟩:=pT hv (hrr'.mono (fun x hx=>List.mem_append_left _ hx)) hcd h2
      simp only[V.den,h3,Option.map_some,Option.some.injEq] at h7
      exact⟨vs,us,_,by rw[h7],h4,tail (hrr'.mono (fun x hx=>List.mem_append_right _ hx)) hrd⟩
     ·rename_i kc c
      have hsl:∀x∈cS [c]++dy vw ss xs,x∈dy vw (.one kc::ss) (.one c::xs):=by
       intro x hx
       cases c<;>exact hx
      have hrr':=hrr.mono hsl
      obtain⟨v,h3,h4⟩:=xh hv (hrr'.mono (fun x hx=>List.mem_append_left _ hx)) (fun _=>⟨u,h7⟩) h2
      have h7':c.den ρ j=some u:=h7
      rw[h3] at h7'
      cases h7'
      have hrd':RdOk ρ j w vw.ld (mQ ss xs):=by
       intro p hp
       refine hrd p ?_
       cases c<;>exact hp
      exact⟨_,us,_,rfl,h4,tail (hrr'.mono (fun x hx=>List.mem_append_right _ hx)) hrd'⟩
     ·rename_i ks b
      split at h2
      ·rename_i hpos
       rw[Option.bind_eq_some_iff] at h2
       obtain⟨cs,hcs,h2⟩:=h2
       have hrr':RrOk ρ base j w vw.rw (cS cs++dy vw ss xs):=by
        have:dy vw (.ptr ks::ss) (.one (.ptr b 0)::xs)=cS cs++dy vw ss xs:=by simp only[dy,hcs]
        rw[←this]; exact hrr
       have hrd1:RdOk ρ j w vw.ld (bG b 0 ks.length):=fun p hp=>hrd p (List.mem_append_left _ hp)
       have hrd2:RdOk ρ j w vw.ld (mQ ss xs):=fun p hp=>hrd p (List.mem_append_right _ hp)
       obtain⟨kk,hk,rfl⟩:=eU h7
       have hcd:∀c∈cs,CK.any∈ks→∃v,c.den ρ j=some v:=fun c hc _=>by
        obtain⟨_,vs,h8,_⟩:=gQ (ρ:=ρ) (w:=w) hk (vw.rowok _ _ _ _ hcs) hrd1
        obtain⟨i,hi⟩:=List.getElem?_of_mem hc
        obtain⟨v,_,hv⟩:=bz h8 i c hi
        exact⟨v,hv⟩
       obtain⟨vs,h3,h4⟩:=pT hv (hrr'.mono (fun x hx=>List.mem_append_left _ hx)) hcd h2
       obtain⟨hlen,hget⟩:=dW _ _ _ (vw.rowok _ _ _ _ hcs)
       have mem:∀(n o m:Nat),m<n→(b,o+m)∈bG b o n:=by
        intro n
        induction n with
        | zero=>intro o m hm; omega
        | succ n ih=>
          intro o m hm
          cases m with
          | zero=>simp[bG]
          | succ m=>simp only[bG,List.mem_cons]; right; rw[show o+(m+1)=o+1+m by omega]; exact ih (o+1) m (by omega)
       have cell:∀o u,vs[o]? =some u→w.cell? ⟨kk,o,none⟩=some u:=by
        intro o u hou
        have hlt:o<cs.length:=by rw[←aA h3]; exact(List.getElem?_eq_some_iff.1 hou).1
        have hc:=List.getElem?_eq_getElem hlt
        have hld:=hget o _ hc
        obtain⟨k',v,g1,g2,g3⟩:=hrd1 (b,0+o) (mem _ 0 o (by omega)) _ hld
        simp only at g1 g3
        rw[hk] at g1; cases g1
        obtain⟨u',hu',hd'⟩:=bz h3 o _ hc
        rw[hou] at hu'; cases hu'
        rw[g2] at hd'; cases hd'
        rw[Nat.zero_add] at g3
        exact g3
       have hlt:kk<w.heap.size:=by
        have h0:0<vs.length:=by rw[aA h3]; omega
        exact World.block_lt_of_cell? w ⟨kk,0,none⟩ (cell 0 vs[0] (List.getElem?_eq_getElem h0))
       exact⟨kk,vs,us,_,rfl,h4,hlt,cell,tail (hrr'.mono (fun x hx=>List.mem_append_right _ hx)) hrd2⟩
      ·cases h2
     ·rename_i ks b
      rw[Option.bind_eq_some_iff] at h2
      obtain⟨cs,hcs,h2⟩:=h2
      have hrr':RrOk ρ base j w vw.rw (cS cs++dy vw ss xs):=by
       have:dy vw (.ptr ks::ss) (.one (.fp b 0)::xs)=cS cs++dy vw ss xs:=by simp only[dy,hcs]
       rw[←this]; exact hrr
      split at h2
      rotate_left
      ·cases h2
      rename_i hsol
      obtain⟨kk,hk,rfl⟩:=wW h7
      obtain⟨k',vs',g1,g2,g3,g4⟩:=hfb b cs hcs
      have hcd:∀c∈cs,CK.any∈ks→∃v,c.den ρ j=some v:=fun c hc _=>by
       obtain⟨i,hi⟩:=List.getElem?_of_mem hc
       obtain⟨v,_,hv⟩:=bz g3 i c hi
       exact⟨v,hv⟩
      obtain⟨vs,h3,h4⟩:=pT hv (hrr'.mono (fun x hx=>List.mem_append_left _ hx)) hcd h2
      rw[hk] at g1; cases g1
      rw[h3] at g3; cases g3
      exact⟨kk,_,us,_,rfl,h4,g2,fun o u hu=>g4 o u hu (by
       have hlt:o<cs.length:=by rw[←aA h3]; exact(List.getElem?_eq_some_iff.1 hu).1
       unfold dK
       rw[List.getD_eq_getElem?_getD,List.getElem?_eq_getElem hlt]
       exact List.all_eq_true.1 hsol _ (List.getElem_mem _)),tail (hrr'.mono (fun x hx=>List.mem_append_right _ hx)) hrd⟩
     ·cases h2
theorem eT (v0:Nat):∀(ks:List CK) (n:Nat),(aN v0 n ks).length=(ks.filter CK.isSl).length
 | [],_=>rfl
 | k::ks,n=>by
   have ih:=eT v0 ks (n+1)
   cases k<;>simp[aN,CK.isSl,List.filter_cons,ih]
theorem fj (v0:Nat):∀(ks:List CK) (n i:Nat) (r:RowOb),(aN v0 n ks)[i]? =some r→r.own=true
 | [],_,i,r,h=>by simp[aN] at h
 | k::ks,n,i,r,h=>by
   cases k with
   | sl a b=>
     cases i with
     | zero=>simp[aN] at h; rw[←h]
     | succ i=>exact fj v0 ks (n+1) i r (by simpa[aN] using h)
   | _=>exact fj v0 ks (n+1) i r h
theorem xR (hS:∀s∈cx.sm,SmOk P sp s) (hkeys:∀s∈cx.sm,∀s'∈cx.sm,s.key=s'.key→s=s') {c:Call} {kw:Kw} (hop:o.op=.call c) {f:Operand} (hc:c.callee=.value f) {g:Nat} (hf:vw.ev f=some (.one (.fn g))) {args:List V} (hl:evL vw.ev c.args.toList=some args)
  (h:(abR cx vw g args kw k).holds sp G ρ I) (hg:Good sp cx.sm ρ kw):Sound P sp ρ G I base cx vw o k kw:=by
 unfold abR at h
 split at h
 ·exact h.elim
 ·rename_i s e hfind
  obtain⟨hs,hsf,henc⟩:=kj hfind
  have ok:=hS s hs
  split at h
  ·rename_i ks ty hin
   split at h
   ·rename_i _ id
    split at h
    ·rename_i r hsw
     split at h
     ·rename_i hck
      simp only[Bool.and_eq_true] at hck
      obtain⟨hown,hks,hty⟩:=hck
      replace hks:=bg hks
      replace hty:=Nat.eq_of_beq_eq_true hty
      obtain⟨hpre,heq,h⟩:=h
      obtain⟨L',hF,hrows,hrun⟩:=ok.inpl ks ty hin (r.l.R ρ) hpre
      have heq':ρ.l kw.vk.length=L':=by
       have:eqs ρ (sp.F s.key [.l (r.l.R ρ)]) kw.vk.length 0 [.sl ks ty]:=heq
       rw[hF] at this
       exact this.1
      refine⟨_,_,h,⟨hg.pc,?_,hg.log⟩,⟨rfl,by simp⟩,fun j a w hb hev hrd hwr hrr hfb K Q hK=> ?_⟩
      ·refine⟨fun n k hn=> ?_,fun n k hn=> ?_⟩
       ·rcases Nat.lt_or_ge n kw.vk.length with h1 | h1
        ·rw[List.getElem?_append_left h1] at hn; exact hg.vk.i n k hn
        ·rw[List.getElem?_append_right h1] at hn
         cases hd:n-kw.vk.length with
         | zero=>rw[hd] at hn; simp at hn
         | succ m=>rw[hd] at hn; simp at hn
       ·rcases Nat.lt_or_ge n kw.vk.length with h1 | h1
        ·rw[List.getElem?_append_left h1] at hn; exact hg.vk.l n k hn
        ·rw[List.getElem?_append_right h1] at hn
         cases hd:n-kw.vk.length with
         | zero=>
           rw[hd] at hn
           simp only[List.getElem?_cons_zero,Option.some.injEq,VK.list.injEq] at hn
           obtain rfl:n=kw.vk.length:=by omega
           rw[heq',←hn]; exact hrows
         | succ m=>rw[hd] at hn; simp at hn
      ·obtain⟨hrw,hkd⟩:=Vw.sw_some hsw
       obtain⟨sv,hsv,hrow⟩:=hrr id List.mem_cons_self r hrw
       have hso:SlOk ρ base w sv r:=by
        rcases hrow.1.cases with⟨_,h1⟩ | ⟨h1,_⟩ | ⟨h1,_⟩
        ·exact h1
        ·rw[hkd] at h1; cases h1
        ·rw[hkd] at h1; cases h1
       have hor:OwnRow w base ty ks sv (r.l.R ρ):=by
        rw[←hks,←hty]
        exact⟨hso.n,hso.own hown,hso.rows,hso.pos⟩
       obtain⟨hent,hcalls⟩:=hrun base sv w hor
       obtain⟨h1,h2⟩:=dE (j:=j) (a:=a) hl (fun x hx=>hev x (by simp[hop,Op.operands,Call.operands]; exact .inr (by simpa using hx)))
       have h4:=hev f (by simp[hop,Op.operands,Call.operands,hc]) _ hf
       have h5:a.eval f=.func (.func g) #[] #[]:=(Option.some.inj h4).symm
       have h7:c.args.map a.eval = #[sv.v]:=by
        have e2:c.args.toList.map a.eval=[sv.v]:=by
         match hm:c.args.toList.map a.eval,h2 with
         | [y],_=>
           have hd':(j.s id).map SV.v=some y:=h1 0 _ y rfl (by rw[hm]; rfl)
           rw[hsv] at hd'
           rw[Option.some.inj hd'.symm]
        have e3:c.args.map a.eval=(c.args.toList.map a.eval).toArray:=by rw[←cj]
        rw[e3,e2]
       have h6:(execOp a.eval o).run P w=(callFunc s.f #[sv.v]).run P w:=by
        rw[hsf]
        simp only[execOp,hop,resolve,hc,h5,h7,Deferred.ofValue,Sem.run_bind,Sem.run_pure,Result.andThen_ok,invoke,Array.empty_append,Array.append_empty]
       unfold Oper.wp
       rw[h6,hent]
       show Calls P s.f _ w _
       refine hcalls.mono ?_
       rintro e' w' ⟨rfl,ho,hgr⟩
       refine hK (.tuple #[]) j w' rfl ⟨rfl,sv,hsv,hgr,RowOk.mk_own hkd ?_ ?_ ?_ ?_⟩
       ·show sv.n=(ρ.l kw.vk.length).length
        rw[heq']; exact ho.n
       ·show RowsIn r.ks (ρ.l kw.vk.length)
        rw[heq',hks]; exact ho.rows
       ·exact hso.pos
       ·show w'.ownsRow base r.ty r.ks.length sv.v sv.n (flat r.ks (ρ.l kw.vk.length))
        rw[heq',hks,hty]; exact ho.own
     ·exact h.elim
    ·exact h.elim
   ·exact h.elim
  rename_i hin
  have main:∀v0 kw',KwGe kw' kw→sp.pre s.key (e.D ρ)→eqs ρ (sp.F s.key (e.D ρ)) v0 0 s.ks→(k {val:=resV s v0 vw.nid,rd:=mQ s.args args,rr:=dy vw s.args args,re:=.mk (aN v0 0 s.ks)} kw').holds sp G ρ I→Good sp cx.sm ρ kw'→Sound P sp ρ G I base cx vw o k kw:=by
   intro v0 kw' hlv hpre heq hh hg'
   refine⟨_,kw',hh,hg',hlv,fun j a w hb hev hrd hwr hrr hfb K Q hK=> ?_⟩
   obtain⟨h1,h2⟩:=dE (j:=j) (a:=a) hl (fun x hx=>hev x (by simp[hop,Op.operands,Call.operands]; exact .inr (by simpa using hx)))
   have h3:=xj hg.vk hrr hrd hfb henc _ h1 h2
   have h4:=hev f (by simp[hop,Op.operands,Call.operands,hc]) _ hf
   have h5:a.eval f=.func (.func g) #[] #[]:=(Option.some.inj h4).symm
   have h7:c.args.map a.eval=(c.args.toList.map a.eval).toArray:=by rw[←cj]
   have h6:(execOp a.eval o).run P w=(callFunc s.f (c.args.toList.map a.eval).toArray).run P w:=by
    rw[hsf,←h7]
    simp only[execOp,hop,resolve,hc,h5,Deferred.ofValue,Sem.run_bind,Sem.run_pure,Result.andThen_ok,invoke,Array.empty_append,Array.append_empty]
   have fin:∀v w',RetOk s.res s.tup w w' (sp.F s.key (e.D ρ)) v→K (a.put o.dst v) w':=by
    intro v w' hkk
    obtain⟨hx,_,svs,hsl,hden,hrows,hdis,hzz⟩:=hkk
    refine hK v ((j.putL vw.nid svs).addzs (svs.flatMap (·.z))) w' (hden ρ v0 vw.nid _ heq (fun i u hu=> ?_)) ⟨hx,svs,by rw[hsl,eT]; rfl,fun i u r hu hr=> ?_,hdis,hzz,rfl⟩
    ·rw[abW]; simp[J.putL,hu]
    ·exact⟨hrows ρ v0 heq i u r hu hr,fj v0 _ _ _ _ hr⟩
   rcases ok.calls hin _ _ w h3 hpre with⟨v,w',hr,hkk⟩ | ⟨hent,hcalls⟩
   ·rw[hr] at h6
    exact bs h6 (fin v w' hkk)
   ·unfold Oper.wp
    rw[h6,hent]
    show Calls P s.f _ w _
    refine hcalls.mono ?_
    rintro e' w' ⟨v,rfl,hkk⟩
    exact fin v w' hkk
  split at h
  ·rename_i v0 hlog
   obtain⟨s',hs',hk',hpre,heq⟩:=hg.log _ (ln hlog)
   have:=hkeys s' hs' s hs hk'
   subst this
   exact main v0 kw (.refl _) hpre heq h hg
  ·obtain⟨hpre,heq,h⟩:=h
   refine main kw.vk.length {kw with log:=(s.key,e,kw.vk.length)::kw.log,vk:=kw.vk++s.ks.map oS} ⟨rfl,by simp⟩ hpre heq h ⟨hg.pc,?_,?_⟩
   ·exact acQ hg.vk (ok.rng _ (xk hg.vk henc) hpre ρ _ heq)
   ·intro p hp
    rcases List.mem_cons.1 hp with rfl | hp
    ·exact⟨s,hs,rfl,hpre,heq⟩
    ·exact hg.log p hp
theorem xM {c x y:Operand} {kw:Kw} (hop:o.op=.pick c x y) {e:E} {u v:V} (hc:vw.ev c=some (.one (.bool e))) (hx:vw.ev x=some u) (hy:vw.ev y=some v)
  (h:(decK e (fun b kw=>k {val:=if b then u else v} kw) kw).holds sp G ρ I) (hg:Good sp cx.sm ρ kw):Sound P sp ρ G I base cx vw o k kw:=by
 obtain⟨kw',h1,g1,_,l1⟩:=ak _ _ _ h hg
 refine⟨_,kw',h1,g1,l1,OpOk.pure fun j a w _ hev _ _ _=>⟨if e.B ρ then a.eval x else a.eval y,?_,?_⟩⟩
 ·have h2:=hev x (by simp[hop,Op.operands]) _ hx
  have h3:=hev y (by simp[hop,Op.operands]) _ hy
  cases e.B ρ
  ·exact h3
  ·exact h2
 ·have h2:=ez (hev c (by simp[hop,Op.operands]) _ hc)
  simp[execOp,hop,h2,asBool,Sem.run_bind]
theorem jT (hT:∀t i,(t,i)∈cx.ty→TIok P t i):∀(fs:List Field) (l pl:List (Nat×Nat)),fs.map (fun f=>(f.offset,f.type))=l→iV cx.ty l=some pl→∀w,(fs.mapM (m:=Sem) fun f=>do pure (f.offset,←sizeOf f.type)).run P w=.ok pl w
 | [],l,pl,hl,h,w=>by subst hl; cases h; simp
 | f::fs,l,pl,hl,h,w=>by
   subst hl
   simp only[List.map_cons,iV] at h
   split at h
   ·rename_i i r hi hr
    cases h
    have:=(hT _ _ (ab hi)).size
    rw[List.mapM_cons]
    simp only[Sem.run_bind,this,Result.andThen_ok,Sem.run_pure]
    rw[jT hT fs _ r rfl hr w]
    simp
   ·cases h
theorem uO (hT:∀t i,(t,i)∈cx.ty→TIok P t i) {t:Nat} {ps:Array (Nat×Operand)} {kw:Kw} (hop:o.op=.build t ps) {parts:List (Nat×V)} (hps:evP vw.ev ps.toList=some parts) {v:V} (hv:xw cx t parts=some v)
  (h:(k {val:=v} kw).holds sp G ρ I) (hg:Good sp cx.sm ρ kw):Sound P sp ρ G I base cx vw o k kw:=by
 refine⟨_,kw,h,hg,.refl _,OpOk.pure fun j a w _ hev _ _ _=> ?_⟩
 obtain⟨h1,h2⟩:=rW (a:=a) (j:=j) hps (fun x hx=>hev x (by
  simp only[hop,Op.operands]
  simpa using hx))
 have h3:(ps.map fun p=>(p.1,a.eval p.2)).toList=ps.toList.map fun p=>(p.1,a.eval p.2):=Array.toList_map ..
 have hx:execOp a.eval o=(do let v ←Instr.build t (ps.map fun p=>(p.1,a.eval p.2)); pure (.value v)):=by simp only[execOp,hop]
 unfold xw at hv
 split at hv
 ·rename_i i hi
  have ht:=hT _ _ (ab hi)
  obtain⟨z,hz,hzd⟩:=ht.zero
  split at hv
  ·rename_i n et ha
   split at hv
   ·rename_i ie hie
    rw[Option.map_eq_some_iff] at hv
    obtain⟨cs,hcs,rfl⟩:=hv
    obtain⟨cells,h4,h5⟩:=kl (j:=j) parts _ cs _ z.cells hcs (hzd ρ j) h1 h2
    refine⟨.agg cells,by simp[V.den,h5],?_⟩
    have hs:=(hT _ _ (ab hie)).size
    rw[hx]
    simp[Instr.build,Sem.run_bind,hz,run_underlying (ht.arr n et ha),hs,h3,h4]
   ·cases hv
  ·rename_i ha
   split at hv
   ·rename_i hagg
    split at hv
    ·rename_i pl hpl
     rw[Option.map_eq_some_iff] at hv
     obtain⟨cs,hcs,rfl⟩:=hv
     obtain⟨cells,h4,h5⟩:=kl (j:=j) parts _ cs _ z.cells hcs (hzd ρ j) h1 h2
     refine⟨.agg cells,by simp[V.den,h5],?_⟩
     obtain⟨fs,hfs,hfl⟩:=ht.str hagg ha
     have hm:=jT hT fs.toList i.fields pl hfl hpl w
     have hm':(fs.mapM (m:=Sem) fun f=>do pure (f.offset,←sizeOf f.type)).run P w=.ok pl.toArray w:=by
      rw[Array.mapM_eq_mapM_toList]
      rw[show(List.toArray <$> List.mapM (fun f=>(do pure (f.offset,←sizeOf f.type):Sem (Nat×Nat))) fs.toList:Sem (Array (Nat×Nat)))=(do let l ←List.mapM (fun f=>(do pure (f.offset,←sizeOf f.type):Sem (Nat×Nat))) fs.toList; pure l.toArray) from rfl]
      rw[Sem.run_bind,hm]
      rfl
     have h6:(fun m:Nat=>pl.toArray[m]?)=fun m:Nat=>pl[m]? :=by funext m; simp
     rw[hx]
     simp only[Instr.build,Sem.run_bind,hz,run_underlying hfs,Result.andThen_ok,hm',h3,h6,h4,Sem.run_pure]
    ·cases hv
   ·cases hv
 ·cases hv
theorem acn (hT:∀t i,(t,i)∈cx.ty→TIok P t i) (hS:∀s∈cx.sm,SmOk P sp s) (hkeys:∀s∈cx.sm,∀s'∈cx.sm,s.key=s'.key→s=s') {kw:Kw} (h:(opK cx vw o.op kw k).holds sp G ρ I) (hg:Good sp cx.sm ρ kw):Sound P sp ρ G I base cx vw o k kw:=by
 cases hop:o.op<;>rw[hop] at h<;>simp only[opK] at h
 case move x=>
  split at h
  ·rename_i v hv; exact qr (.inl hop) hv h hg
  ·exact h.elim
 case assign x=>
  split at h
  ·rename_i v hv; exact qr (.inr hop) hv h hg
  ·exact h.elim
 case alloc t=>
  split at h
  ·rename_i i hi; exact uQ hT hop hi h hg
  ·exact h.elim
 case box t x=>
  split at h
  ·rename_i v hv
   split at h
   ·rename_i hf; exact aao hop hv hf h hg
   ·exact h.elim
  ·exact h.elim
 case load t x=>
  split at h
  ·rename_i b off i hx hi
   split at h
   ·rename_i hagg
    split at h
    ·rename_i cs hcs; exact nq hT hop hx hi hagg (vw.rowok _ _ _ _ hcs) h hg
    ·exact h.elim
   ·rename_i hagg
    split at h
    ·rename_i c hc; exact nr hT hop hx hi hagg hc h hg
    ·exact h.elim
  ·rename_i b off i hx hi
   split at h
   ·rename_i hagg
    split at h
    ·rename_i cs hcs
     rw[Option.bind_eq_some_iff] at hcs
     obtain⟨c0,hc0,hcs⟩:=hcs
     split at h
     ·rename_i hsol
      exact lL hT hop hx hi hagg (by have:=uV (ld:=fun b o=>(vw.fb b).bind (·[o]?)) (b:=b) (k:=0) hcs (fun i=>by simp[hc0]); rwa [Nat.zero_add] at this) hsol h hg
     ·exact h.elim
    ·exact h.elim
   ·rename_i hagg
    split at h
    ·rename_i c hc
     split at h
     ·rename_i hsol; exact lM hT hop hx hi hagg hc hsol h hg
     ·exact h.elim
    ·exact h.elim
  ·rename_i b o0 n sz e off i hx hi
   split at h
   ·rename_i cs hcs
    split at h
    ·rename_i hq; exact uF hT hop hx hi hcs (of_decide_eq_true hq) h hg
    ·exact h.elim
   ·exact h.elim
  ·rename_i id esz e off i hx hi
   split at h
   ·rename_i r hr
    split at h
    ·rename_i hq
     simp only[Bool.and_eq_true,decide_eq_true_eq] at hq
     exact uG hT hop hx hi hr (Nat.eq_of_beq_eq_true hq.1) hq.2 h hg
    ·exact h.elim
   ·exact h.elim
  ·exact h.elim
 case store t x y=>
  split at h
  ·rename_i b off v i hx hy hi
   split at h
   ·rename_i hq
    simp only[Bool.and_eq_true] at hq
    exact uD hT hop hx hy hi hq.1 hq.2.1 hq.2.2 h hg
   ·exact h.elim
  ·rename_i b o0 n sz e off v i hx hy hi
   split at h
   ·rename_i cs hcs
    split at h
    ·rename_i hq
     simp only[Bool.and_eq_true,decide_eq_true_eq] at hq
     exact sy hT hop hx hy hi hcs hq.1 (Nat.eq_of_beq_eq_true hq.2.1) hq.2.2.1 (Nat.eq_of_beq_eq_true hq.2.2.2) h hg
    ·exact h.elim
   ·exact h.elim
  ·rename_i id esz e off v i hx hy hi
   split at h
   ·rename_i r hr
    split at h
    ·rename_i hq
     simp only[Bool.and_eq_true,decide_eq_true_eq] at hq
     exact sA hT hop hx hy hi hr hq.1 (Nat.eq_of_beq_eq_true hq.2.1) hq.2.2.1 (Nat.eq_of_beq_eq_true hq.2.2.2.1) hq.2.2.2.2 h hg
    ·exact h.elim
   ·exact h.elim
  ·exact h.elim
 case nilCheck x=>
  split at h
  ·rename_i b off hx; exact cG hop hx (.inl (.inl ⟨b,off,rfl⟩)) h hg
  ·rename_i b off hx; exact cG hop hx (.inl (.inr (.inl ⟨b,off,rfl⟩))) h hg
  ·rename_i b o0 n sz e off hx; exact lI hop hx h hg
  ·rename_i g hx; exact cG hop hx (.inr ⟨g,rfl⟩) h hg
  ·rename_i id esz e off hx; exact cG hop hx (.inl (.inr (.inr ⟨id,esz,e,off,rfl⟩))) h hg
  ·rename_i g fs ps hx; exact lJ hop hx h hg
  ·exact h.elim
  ·exact h.elim
 case binOp op xt x y yt=>
  split at h
  ·rename_i v u hx hy; exact aap hT hop hx hy h hg
  ·exact h.elim
 case unOp op t x=>
  split at h
  ·rename_i e hx; exact uC hop hx h hg
  ·rename_i kd e hx; exact uC hop hx h hg
  ·rename_i kd e hx; exact uC hop hx h hg
  ·exact h.elim
 case convert s d x=>
  split at h
  ·rename_i k0 e i is hx hi his
   split at h
   ·rename_i kd hk; exact xQ hT hop hx hi his hk h hg
   ·exact h.elim
  ·exact h.elim
 case fieldAddr s x f=>
  split at h
  ·rename_i b off i hx hi
   split at h
   ·rename_i fo ft hf; exact cf hT hop hx hi hf (fun j v hv=>oy hv) h hg
   ·exact h.elim
  ·rename_i b off i hx hi
   split at h
   ·rename_i fo ft hf; exact cf hT hop hx hi hf (fun j v hv=>rF hv) h hg
   ·exact h.elim
  ·rename_i b o0 n sz e off i hx hi
   split at h
   ·rename_i fo ft hf; exact cf hT hop hx hi hf (fun j v hv=>rE hv) h hg
   ·exact h.elim
  ·rename_i id esz e off i hx hi
   split at h
   ·rename_i fo ft hf; exact cf hT hop hx hi hf (fun j v hv=>rG hv) h hg
   ·exact h.elim
  ·exact h.elim
 case field s x f=>
  split at h
  ·rename_i cs i hx hi
   split at h
   ·rename_i fo ft hf
    split at h
    ·rename_i v hv; exact uJ hT hop hx hi hf hv h hg
    ·exact h.elim
   ·exact h.elim
  ·exact h.elim
 case indexAddr t x y=>
  split at h
  ·rename_i b off k0 e i hx hy hi
   split at h
   ·rename_i n et ha
    split at h
    ·rename_i ie hie
     split at h
     ·exact nt hT hop hx hy hi ha hie h hg
     ·exact de hT hop hx hy hi ha hie (c':=fun m=>.ptr b (off+m*ie.size)) (fun m j v hv=>oy hv) h hg
    ·exact h.elim
   ·exact h.elim
  ·rename_i id esz e0 off k0 e i hx hy hi
   split at h
   ·rename_i n et ha
    split at h
    ·rename_i ie hie; exact de hT hop hx hy hi ha hie (c':=fun m=>.ep id esz e0 (off+m*ie.size)) (fun m j v hv=>rG hv) h hg
    ·exact h.elim
   ·exact h.elim
  ·rename_i id k0 e i hx hy hi
   split at h
   ·rename_i et ha
    split at h
    ·rename_i ie r hie hr
     split at h
     ·rename_i hks; exact nu hT hop hx hy hi ha hie hr (Nat.eq_of_beq_eq_true hks) h hg
     ·exact h.elim
    ·exact h.elim
   ·exact h.elim
  ·exact h.elim
  ·exact h.elim
 case index t x y=>
  split at h
  ·rename_i cs k0 e i hx hy hi
   split at h
   ·rename_i n et ha
    split at h
    ·rename_i ie hie; exact uI hT hop hx hy hi ha hie h hg
    ·exact h.elim
   ·exact h.elim
  ·exact h.elim
 case pick c x y=>
  split at h
  ·rename_i e u v hc hx hy; exact xM hop hc hx hy h hg
  ·exact h.elim
 case build t ps=>
  split at h
  ·rename_i parts hps
   split at h
   ·rename_i v hv; exact uO hT hop hps hv h hg
   ·exact h.elim
  ·exact h.elim
 case buildSlice t n ps=>
  split at h
  ·rename_i parts i hps hi
   split at h
   ·rename_i et ha
    split at h
    ·rename_i ie hie
     split at h
     ·rename_i ks cs hks hfill
      split at h
      ·rename_i l hl
       split at h
       ·rename_i hq
        simp only[Bool.and_eq_true,decide_eq_true_eq] at hq
        exact kA hT hop hps hi ha hie hfill hl ⟨hq.1,hq.2.1,Nat.eq_of_beq_eq_true hq.2.2⟩ h hg
       ·exact h.elim
      ·exact h.elim
     ·exact h.elim
    ·exact h.elim
   ·exact h.elim
  ·exact h.elim
 case makeSlice t x y=>
  split at h
  ·rename_i k1 e k2 e' i hx hy hi
   split at h
   ·rename_i et ha
    split at h
    ·rename_i ie hie
     split at h
     ·rename_i ks hks
      split at h
      ·rename_i r hr
       split at h
       ·rename_i hq
        simp only[Bool.and_eq_true,decide_eq_true_eq] at hq
        exact lK hT hop hx hy hi ha hie hr ⟨hq.1,hq.2.1,Nat.eq_of_beq_eq_true hq.2.2.1,hq.2.2.2⟩ h hg
       ·exact h.elim
      ·exact h.elim
     ·exact h.elim
    ·exact h.elim
   ·exact h.elim
  ·exact h.elim
 case slice t x lo hi' mx=>
  cases mx with
  | some m=>exact h.elim
  | none=>
    simp only[opK] at h
    split at h
    ·rename_i id i hx hi
     split at h
     ·rename_i et r ha hr
      split at h
      ·rename_i ie hie
       split at h
       ·rename_i hq
        simp only[Bool.and_eq_true] at hq
        have hks:=Nat.eq_of_beq_eq_true hq.1
        split at h
        ·rename_i h1 h2
         have e1:hi'=none:=by simpa using h1
         have e2:lo=none:=by simpa using h2
         subst e1 e2
         exact uB hT hop hx hi ha hie h hg
        ·rename_i kd a h1 h2
         have e1:hi'=none:=by simpa using h1
         subst e1
         rw[Option.map_eq_some_iff] at h2
         obtain⟨y,rfl,hy⟩:=h2
         obtain⟨kw1,g1,q1,_,l1⟩:=ak _ _ _ h hg
         rw[aG] at g1
         split at g1
         ·exact g1.elim
         rename_i n1
         obtain⟨kw2,g2,q2,_,l2⟩:=ak _ _ _ g1 q1
         rw[aG,aU] at g2
         split at g2
         ·exact g2.elim
         rename_i n2
         have m1:¬a.I ρ<0:=of_decide_eq_false (Bool.eq_false_iff.2 n1)
         have m2:¬((r.l.R ρ).length:Int)<a.I ρ:=of_decide_eq_false (Bool.eq_false_iff.2 n2)
         exact(o6 hT hop hx hi ha hie hr hks (L:=(a.I ρ).toNat) (H:=(r.l.R ρ).length) (.inr ⟨y,kd,a,rfl,hy,by omega⟩) (.inl ⟨rfl,rfl⟩) (by simp[E.R]) (by omega) g2 q2).lv (l2.trans l1)
        ·rename_i kd c h1 h2
         have e2:lo=none:=by simpa using h2
         subst e2
         rw[Option.map_eq_some_iff] at h1
         obtain⟨y,rfl,hy⟩:=h1
         obtain⟨kw1,g1,q1,_,l1⟩:=ak _ _ _ h hg
         rw[aG] at g1
         split at g1
         ·exact g1.elim
         rename_i n1
         obtain⟨kw2,g2,q2,_,l2⟩:=ak _ _ _ g1 q1
         rw[aG,aU] at g2
         split at g2
         ·exact g2.elim
         rename_i n2
         have m1:¬c.I ρ<0:=of_decide_eq_false (Bool.eq_false_iff.2 n1)
         have m2:¬((r.l.R ρ).length:Int)<c.I ρ:=of_decide_eq_false (Bool.eq_false_iff.2 n2)
         exact(o6 hT hop hx hi ha hie hr hks (L:=0) (H:=(c.I ρ).toNat) (.inl ⟨rfl,rfl⟩) (.inr ⟨y,kd,c,rfl,hy,by omega⟩) (by simp[E.R]) (by omega) g2 q2).lv (l2.trans l1)
        ·rename_i kd c kd' a h1 h2
         rw[Option.map_eq_some_iff] at h1 h2
         obtain⟨y,rfl,hy⟩:=h1
         obtain⟨y',rfl,hy'⟩:=h2
         obtain⟨kw1,g1,q1,_,l1⟩:=ak _ _ _ h hg
         rw[aG] at g1
         split at g1
         ·exact g1.elim
         rename_i n1
         obtain⟨kw2,g2,q2,_,l2⟩:=ak _ _ _ g1 q1
         rw[aG,aU] at g2
         split at g2
         ·exact g2.elim
         rename_i n2
         obtain⟨kw3,g3,q3,_,l3⟩:=ak _ _ _ g2 q2
         rw[aG] at g3
         split at g3
         ·exact g3.elim
         rename_i n3
         obtain⟨kw4,g4,q4,_,l4⟩:=ak _ _ _ g3 q3
         rw[aG] at g4
         split at g4
         ·exact g4.elim
         rename_i n4
         have m1:¬c.I ρ<0:=of_decide_eq_false (Bool.eq_false_iff.2 n1)
         have m2:¬((r.l.R ρ).length:Int)<c.I ρ:=of_decide_eq_false (Bool.eq_false_iff.2 n2)
         have m3:¬a.I ρ<0:=of_decide_eq_false (Bool.eq_false_iff.2 n3)
         have m4:¬c.I ρ<a.I ρ:=of_decide_eq_false (Bool.eq_false_iff.2 n4)
         exact(o6 hT hop hx hi ha hie hr hks (L:=(a.I ρ).toNat) (H:=(c.I ρ).toNat) (.inr ⟨y',kd',a,rfl,hy',by omega⟩) (.inr ⟨y,kd,c,rfl,hy,by omega⟩) (by simp[E.R]) (by omega) g4 q4).lv (l4.trans (l3.trans (l2.trans l1)))
        ·exact h.elim
       ·exact h.elim
      ·exact h.elim
     ·exact h.elim
    ·exact h.elim
 case makeMap t rs=>
  cases rs with
  | some _=>exact h.elim
  | none=>
    exact h.elim
 case lookup t x y ok=>
  exact h.elim
 case mapUpdate t x y z=>
  exact h.elim
 case range t x=>
  exact h.elim
 case entry x=>
  exact h.elim
 case makeFunc fn fs ps=>
  split at h
  ·rename_i g x y hx hy; exact np hop hx hy h hg
  ·exact h.elim
 case extract x n=>
  split at h
  ·rename_i vs hx
   split at h
   ·rename_i cs hp; exact ji hop hx hp (.inl ⟨cs,rfl,rfl⟩) h hg
   ·rename_i c hp; exact ji hop hx hp (.inr ⟨c,rfl,rfl⟩) h hg
   ·exact h.elim
  ·exact h.elim
 case call c=>
  split at h
  ·rename_i f hc
   split at h
   ·rename_i g args hf hl; exact xR hS hkeys hop hc hf hl h hg
   ·exact h.elim
  ·rename_i hc
   split at h
   ·rename_i id t hl hty
    split at h
    ·rename_i i r hi hr
     split at h
     ·rename_i hsl; exact aan hT hop hc hl hty hi hsl hr h hg
     ·exact h.elim
    ·exact h.elim
   ·rename_i t hl hty
    split at h
    ·rename_i i hi
     split at h
     ·rename_i hsl; exact xO hT hop hc hl hty hi hsl h hg
     ·exact h.elim
    ·exact h.elim
   ·exact h.elim
  ·rename_i hc
   split at h
   ·rename_i s id t t' hl hty
    split at h
    ·rename_i i r hi hr
     split at h
     ·rename_i et ha
      split at h
      ·rename_i ie hie
       split at h
       ·rename_i hq
        simp only[Bool.and_eq_true,decide_eq_true_eq] at hq
        have htt:=Nat.eq_of_beq_eq_true hq.1
        subst htt
        have hq':r.ty=et∧r.ks.length=ie.size∧0<ie.size∧ie.bytes≤65536:=⟨Nat.eq_of_beq_eq_true hq.2.1,Nat.eq_of_beq_eq_true hq.2.2.1,hq.2.2.2.1,hq.2.2.2.2⟩
        split at h
        ·exact o9 hT hop hc hl hty hi ha hie hr hq' h hg
        ·rename_i old
         split at h
         ·rename_i q hrq
          split at h
          ·rename_i hq2
           simp only[Bool.and_eq_true] at hq2
           exact sF hT hop hc hl hty hi ha hie hr hrq hq' ⟨hq2.1,Nat.eq_of_beq_eq_true hq2.2.1,bg hq2.2.2.1⟩ h hg
          ·exact h.elim
         ·exact h.elim
        ·exact h.elim
       ·exact h.elim
      ·exact h.elim
     ·exact h.elim
    ·exact h.elim
   ·exact h.elim
  ·rename_i hc
   split at h
   ·rename_i k0 e l hl
    split at h
    ·rename_i e' he; exact zp false hop hc hl he h hg
    ·exact h.elim
   ·exact h.elim
  ·rename_i hc
   split at h
   ·rename_i k0 e l hl
    split at h
    ·rename_i e' he; exact zp true hop hc hl he h hg
    ·exact h.elim
   ·exact h.elim
  ·exact h.elim
 all_goals exact h.elim
end
end Go.Proofs.Ytghiofgomcihcaa
