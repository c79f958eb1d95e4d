import Derived.Test.YtghiofgomcihcaaSyM
import Derived.Lib.LazyBuf
set_option linter.unusedVariables false
set_option linter.unusedSimpArgs false
namespace Go.Proofs.Ytghiofgomcihcaa
open Go Go.RowKit
section
variable {P:Program} {sp:Spec} {ρ:Env} {G:Env→E→Prop} {I:Nat→List Dt→Prop} {cx:Cx} {cl:ClK} {n:Nat} {X:List Value} {W0:Wb} {ops:Array Oper} {ro:Option Nat} {ry:Option RfS}
theorem At.ev {s:St} {j:J} {a:Act} {w:World} (h:At cx ρ n X W0 s j a w) {x:Operand} {v:V} (hx:evS s.n s.tmps x=some v):v.den ρ j=some (a.eval x):=by
 refine h.rel.eval (x:=x) ?_
 have:=xe s s.le x
 rw[h.own] at this hx
 rw[this]; exact hx
theorem At.le {s:St} {j:J} {a:Act} {w:World} (h:At cx ρ n X W0 s j a w):s.n≤s.tmps.length:=s.le
theorem gv {j:J}:∀{l:List (Option (Bool×Nat×Nat))} {vs:List Value},bU j l=some vs→vs.length=(l.map capV).length∧∀(i:Nat) x,(l.map capV)[i]? =some x→∃u,vs[i]? =some u∧x.den ρ j=some u
 | [],vs,h=>by cases h; exact⟨rfl,fun i x hx=>by simp at hx⟩
 | c::l,vs,h=>by
   simp only[bU] at h
   cases hc:ptrV j c with
   | none=>rw[hc] at h; cases h
   | some v=>
     cases hl:bU j l with
     | none=>rw[hc,hl] at h; cases h
     | some us=>
       rw[hc,hl] at h
       cases h
       obtain⟨h1,h2⟩:=gv hl
       refine⟨by simp[h1],fun i x hx=> ?_⟩
       cases i with
       | zero=>
         simp only[List.map_cons,List.getElem?_cons_zero,Option.some.injEq] at hx
         subst hx
         refine⟨v,rfl,?_⟩
         match c,hc with
         | none,hc=>exact hc
         | some (true,b,o),hc=>exact hc
         | some (false,b,o),hc=>exact hc
       | succ i=>exact h2 i x (by simpa using hx)
theorem jb {j:J} {xs ys:List V} {us vs:List Value} (h1:us.length=xs.length) (h2:∀(i:Nat) x,xs[i]? =some x→∃u,us[i]? =some u∧x.den ρ j=some u) (h3:∀(i:Nat) x,ys[i]? =some x→∃u,vs[i]? =some u∧x.den ρ j=some u):
  ∀(i:Nat) x,(xs++ys)[i]? =some x→∃u,(us++vs)[i]? =some u∧x.den ρ j=some u:=by
 intro i x hx
 rcases Nat.lt_or_ge i xs.length with hlt | hge
 ·rw[List.getElem?_append_left hlt] at hx
  rw[List.getElem?_append_left (by omega)]
  exact h2 i x hx
 ·rw[List.getElem?_append_right hge] at hx
  rw[List.getElem?_append_right (by omega),h1]
  exact h3 _ x hx
theorem wN (hcl:ClOk P sp G cx ry cl X W0) {o:Oper} {g:Nat} {args:List V} {s:St} {kw:Kw} {k:St→Kw→Tr} {j:J} {a:Act} {w:World} {vals:List Value} (hgb:g<yB) (h:(inlK cl o g args s kw k).holds sp G ρ I) (hg:Good sp cx.sm ρ kw) (hr:At cx ρ n X W0 s j a w)
  (hl:vals.length=args.length) (hd:∀(i:Nat) x,args[i]? =some x→∃u,vals[i]? =some u∧x.den ρ j=some u) {K:Act→World→Prop}
  (hK:∀s' kw' ρ' I' j' a' w',(k s' kw').holds sp G ρ' I'→Good sp cx.sm ρ' kw'→Nx kw kw' ρ ρ' I I'→At cx ρ' n X W0 s' j' a' w'→K a' w'):
  (callFunc g vals.toArray).run P w=.ok (.enter g vals.toArray) w∧Calls P g vals.toArray w fun e w'=>∃u,e=.returned u∧K (a.put o.dst u) w':=by
 refine hcl.1.call g args s kw _ (fun u w'=>K (a.put o.dst u) w') ρ I n X W0 j a w vals hgb h hg hr (hcl.2.more _) hl hd (fun v s' kw' ρ' I' j' w' u h' hg' ha hI hlv hvk hv hr'=> ?_)
 have hnx:Nx kw kw' ρ ρ' I I':=⟨ha,hI,hlv,hvk⟩
 split at h'
 ·rename_i hdst
  rw[hdst]
  exact hK s' kw' ρ' I' j' _ w' h' hg' hnx hr'
 ·rename_i d hdst
  split at h'
  ·rename_i hlt
   have hlt':d<s'.n:=by simpa[Nat.blt_eq] using hlt
   refine hK _ kw' ρ' I' j' _ w' h' hg' hnx ⟨?_,hr'.len,hr'.own⟩
   have h1:=hr'.rel.put (dst:=o.dst) hv (fun d' hd'=>by rw[hdst] at hd'; cases hd'; rw[←hr'.own]; exact hlt')
   rw[hdst] at h1 ⊢
   have e:(St.mk (s'.tmps.set d v) s'.heap).fs=s'.fs.put (some d) v:=by
    refine FS.ext' (fun t=> ?_) (fun _=>rfl) (fun _=>rfl) (fun _=>rfl)
    simp only[FS.put,St.fs,fsOf,TM.get_set s'.tmps v hlt']
    by_cases ht:d=t
    ·subst ht; simp
    ·simp[ht]
   rw[e]
   exact h1
  ·exact h'.elim
theorem abA (hcl:ClOk P sp G cx ry cl X W0) {o:Oper} {id l:Nat} {args:List V} {s:St} {kw:Kw} {k:St→Kw→Tr} {j:J} {a:Act} {w:World} {vals:List Value} (h:(inlK cl o (yB+id) args s kw k).holds sp G ρ I) (hg:Good sp cx.sm ρ kw) (hr:At cx ρ n X W0 s j a w)
  (hl:vals.length=args.length) (hyl:j.g.y id=some l) (hd:∀(i:Nat) x,args[i]? =some x→∃u,vals[i]? =some u∧x.den ρ j=some u) {K:Act→World→Prop}
  (hK:∀s' kw' ρ' I' j' a' w',(k s' kw').holds sp G ρ' I'→Good sp cx.sm ρ' kw'→Nx kw kw' ρ ρ' I I'→At cx ρ' n X W0 s' j' a' w'→K a' w'):
  ∃f tmps assign body,(Instr.yield l vals.toArray).run P w=.ok (.round l f tmps assign body) w∧∀ro,RoundIn (Fw ro) 0 P l f tmps assign body w fun e w'=>∃u,e=.returned u∧K (a.put o.dst u) w':=by
 refine hcl.1.yld id args s kw _ (fun u w'=>K (a.put o.dst u) w') ρ I n X W0 j a w vals l h hg hr hcl.2 hyl hl hd (fun v s' kw' ρ' I' j' w' u h' hg' ha hI hlv hvk hv hr'=> ?_)
 have hnx:Nx kw kw' ρ ρ' I I':=⟨ha,hI,hlv,hvk⟩
 split at h'
 ·rename_i hdst
  rw[hdst]
  exact hK s' kw' ρ' I' j' _ w' h' hg' hnx hr'
 ·rename_i d hdst
  split at h'
  ·rename_i hlt
   have hlt':d<s'.n:=by simpa[Nat.blt_eq] using hlt
   refine hK _ kw' ρ' I' j' _ w' h' hg' hnx ⟨?_,hr'.len,hr'.own⟩
   have h1:=hr'.rel.put (dst:=o.dst) hv (fun d' hd'=>by rw[hdst] at hd'; cases hd'; rw[←hr'.own]; exact hlt')
   rw[hdst] at h1 ⊢
   have e:(St.mk (s'.tmps.set d v) s'.heap).fs=s'.fs.put (some d) v:=by
    refine FS.ext' (fun t=> ?_) (fun _=>rfl) (fun _=>rfl) (fun _=>rfl)
    simp only[FS.put,St.fs,fsOf,TM.get_set s'.tmps v hlt']
    by_cases ht:d=t
    ·subst ht; simp
    ·simp[ht]
   rw[e]
   exact h1
  ·exact h'.elim
theorem rP {v0:Nat} {ρ ρ':Env} (h:Ag v0 ρ ρ'):Giv v0 [] [] ρ ρ':=⟨h,fun m k t hk=>by simp at hk,fun m t hk=>by simp at hk,fun m ks t hk=>by simp at hk⟩
theorem lb {y:Operand} (h:ke y=true) (a:Act):a.eval y=.slice none 0 0:=by
 unfold ke at h
 split at h
 ·rfl
 ·cases h
theorem abm (hT:∀t i,(t,i)∈cx.ty→TIok P t i) {o:Oper} {xt yt:Nat} {x y:Operand} {id:Nat} {s:St} {kw:Kw} {k:St→Kw→Tr} {j:J} {a:Act} {w:World} (hop:o.op=.binOp .eql xt x y yt) (hy:ke y=true) (hev:evS s.n s.tmps x=some (.one (.sl id))) (h:(nilK cx o xt id s kw k).holds sp G ρ I) (hg:Good sp cx.sm ρ kw) (hr:At cx ρ n X W0 s j a w) {K:Act→World→Prop} {Q:Exit→Act→World→Prop}
  (hK:∀s' kw' ρ' I' j' a' w',(k s' kw').holds sp G ρ' I'→Good sp cx.sm ρ' kw'→Nx kw kw' ρ ρ' I I'→At cx ρ' n X W0 s' j' a' w'→K a' w'):o.wp P a w K Q:=by
 unfold nilK at h
 split at h
 ·rename_i r i hq hi
  split at h
  ·rename_i hc
   simp only[Bool.and_eq_true] at hc
   obtain⟨hkd,hsl,hok⟩:=hc
   obtain⟨et,het⟩:=Option.isSome_iff_exists.1 hsl
   have hu:=(hT _ _ (ab hi)).sle et het
   have hx:=hr.ev hev
   obtain⟨sv,hs,hv⟩:∃sv:SV,j.s id=some sv∧a.eval x=sv.v:=by
    simp only[V.den,C.den,Option.map_eq_some_iff] at hx
    obtain⟨sv,h1,h2⟩:=hx
    exact⟨sv,h1,h2.symm⟩
   obtain⟨ρ',ha,hz,hh⟩:=h (if sv.a.isNone then 0 else 1) (by split<;>decide)
   have hr':At cx ρ' n X W0 s ((sI s kw).J j) a w:=⟨gc hok (rP ha) hr.rel,hr.len,hr.own⟩
   have hcond:(nilE r.l kw.vk.length).B ρ'=true:=by
    have hx':=hr'.ev hev
    simp only[V.den,C.den,Option.map_eq_some_iff] at hx'
    obtain⟨sv',h1,h2⟩:=hx'
    obtain⟨sv2,h3,h4⟩:=hr'.rel.row id r (dV (by rw[gP]; exact hq))
    rw[h1] at h3
    cases h3
    have hkd':r.kd=.sl:=by
     cases hd:r.kd with
     | sl=>rfl
     | _=>rw[hd] at hkd; cases hkd
    have h5:=h4.1 hkd'
    have h6:=h5.n
    have h7:=h5.rd.2.2.2.1
    rw[hv] at h2
    obtain⟨sa,sn,sc,sz⟩:=sv
    obtain⟨ta,tn,tc,tz⟩:=sv'
    simp only[SV.v,Value.slice.injEq] at h2
    obtain⟨rfl,rfl,rfl⟩:=h2
    simp only[nilE,E.B,E.I,hz,aU,←h6]
    cases ta with
    | none=>
      have h8:=(h7 rfl).1
      simp only at h8
      subst h8
      simp
    | some q=>simp
   have hh':=hh hcond
   split at hh'
   ·rename_i s' hs'
    obtain⟨e1,e2,e3,_,_,_⟩:=St.app_ok hr.le hs'
    have hrun:(execOp a.eval o).run P w=.ok (.value (.bool sv.a.isNone)) w:=by
     obtain⟨sa,sn,sc,sz⟩:=sv
     have h1:=Go.Lib.run_eql_slice_nil (P:=P) w xt et sa sn sc 0 0 hu
     simp only[execOp,hop,hv,lb hy,SV.v,eqGuard,Sem.run_bind]
     exact congrArg (fun r=>Result.andThen r fun a w'=>Result.ok (Next.value a) w') h1
    refine bs hrun (hK s' _ ρ' I ((sI s kw).J j) _ _ hh' (gj hg ha ⟨?_,trivial⟩) ⟨ha,fun _ _=>rfl,by simp[Kw.head],by simp[Kw.head]⟩ ⟨?_,by rw[e2.1]; exact hr.len,by rw[e2.2]; exact hr.own⟩)
    ·show inK .i64 (ρ'.i kw.vk.length)=true
     rw[hz]; split<;>decide
    ·rw[e1]
     refine hr'.rel.put ?_ (fun d hd=>by rw[←hr.own]; exact e3 d hd)
     simp only[V.den,C.den,E.B,E.I,hz]
     cases sv.a<;>rfl
   ·exact hh'.elim
  ·exact h.elim
 ·exact h.elim
theorem zR (hT:∀t i,(t,i)∈cx.ty→TIok P t i) (hcl:ClOk P sp G cx ry cl X W0) {o:Oper} {s:St} {kw:Kw} {k:St→Kw→Tr} {j:J} {a:Act} {w:World} (h:(goK cl cx o s kw k).holds sp G ρ I) (hg:Good sp cx.sm ρ kw) (hr:At cx ρ n X W0 s j a w) {K:Act→World→Prop} {Q:Exit→Act→World→Prop}
  (hK:∀s' kw' ρ' I' j' a' w',(k s' kw').holds sp G ρ' I'→Good sp cx.sm ρ' kw'→Nx kw kw' ρ ρ' I I'→At cx ρ' n X W0 s' j' a' w'→K a' w'):o.wpIn (Fw ro) 0 P a w K Q:=by
 unfold goK at h
 split at h
 ·rename_i xt x y yt hop
  split at h
  ·rename_i hy
   split at h
   ·rename_i id hx; exact eu (by simp[hop]) (abm hT hop hy hx h hg hr hK)
   ·rename_i hx
    split at h
    ·rename_i i hi
     split at h
     ·rename_i hsl
      split at h
      ·rename_i s' hs'
       obtain⟨et,het⟩:=Option.isSome_iff_exists.1 hsl
       have hu:=(hT _ _ (ab hi)).sle et het
       obtain⟨e1,e2,e3,_,_,_⟩:=St.app_ok hr.le hs'
       have hv:a.eval x=.slice none 0 0:=(Option.some.inj (hr.ev hx)).symm
       have hrun:(execOp a.eval o).run P w=.ok (.value (.bool true)) w:=by
        have h1:=Go.Lib.run_eql_slice_nil (P:=P) w xt et none 0 0 0 0 hu
        simp only[execOp,hop,hv,lb hy,eqGuard,Sem.run_bind]
        exact congrArg (fun r=>Result.andThen r fun a w'=>Result.ok (Next.value a) w') h1
       refine eu (by simp[hop]) (bs hrun (hK s' kw ρ I j _ w h hg (.of (.refl _) _ _) ⟨?_,by rw[e2.1]; exact hr.len,by rw[e2.2]; exact hr.own⟩))
       rw[e1]
       exact hr.rel.put rfl (fun d hd=>by rw[←hr.own]; exact e3 d hd)
      ·exact h.elim
     ·exact h.elim
    ·exact h.elim
   ·exact h.elim
  ·exact h.elim
 ·rename_i c hop
  split at h
  ·rename_i f hc
   have run:∀(g:Nat) (vals:List Value),(execOp a.eval o).run P w=(callFunc g vals.toArray).run P w→((callFunc g vals.toArray).run P w=.ok (.enter g vals.toArray) w∧Calls P g vals.toArray w fun e w'=>∃u,e=.returned u∧K (a.put o.dst u) w')→o.wpIn (Fw ro) 0 P a w K Q:=by
    intro g vals h6 ⟨h7,h8⟩
    refine eu (by simp[hop]) ?_
    unfold Oper.wp
    rw[h6,h7]
    show Calls P g _ w _
    refine h8.mono ?_
    rintro e' w' ⟨u,rfl,hk⟩
    exact hk
   split at h
   ·rename_i g args hf hl
    split at h<;>first | exact h.elim | skip
    rename_i hgb
    have hgb:g<yB:=by simpa[Nat.blt_eq] using hgb
    obtain⟨h1,h2⟩:=dE (ρ:=ρ) (j:=j) (a:=a) hl (fun x _ v hv=>hr.ev hv)
    have h4:=hr.ev hf
    have h5:a.eval f=.func (.func g) #[] #[]:=(Option.some.inj h4).symm
    refine run g (c.args.toList.map a.eval) ?_ (wN hcl hgb h hg hr (by simpa using h2) (fun i x hx=> ?_) hK)
    ·have h7:c.args.map a.eval=(c.args.toList.map a.eval).toArray:=by rw[←cj]
     rw[←h7]
     simp only[execOp,hop,resolve,hc,h5,Deferred.ofValue,Sem.run_bind,Sem.run_pure,Result.andThen_ok,invoke,Array.empty_append,Array.append_empty]
    ·have hlt:i<(c.args.toList.map a.eval).length:=by
      have:=(List.getElem?_eq_some_iff.1 hx).1
      rw[h2]; exact this
     exact⟨_,List.getElem?_eq_getElem hlt,h1 i x _ hx (List.getElem?_eq_getElem hlt)⟩
   ·rename_i g fs ps args hf hl
    split at h<;>first | exact h.elim | skip
    rename_i hgb
    have hgb:g<yB:=by simpa[Nat.blt_eq] using hgb
    obtain⟨h1,h2⟩:=dE (ρ:=ρ) (j:=j) (a:=a) hl (fun x _ v hv=>hr.ev hv)
    obtain⟨x,y,hx,hy,h5⟩:=cC (show cloV g (bU j fs) (bU j ps)=some (a.eval f) from hr.ev hf)
    obtain⟨e1,e2⟩:=gv (ρ:=ρ) hx
    obtain⟨e3,e4⟩:=gv (ρ:=ρ) hy
    have e5:∀(i:Nat) z,args[i]? =some z→∃u,(c.args.toList.map a.eval)[i]? =some u∧z.den ρ j=some u:=fun i z hz=>by
     have hlt:i<(c.args.toList.map a.eval).length:=by
      have:=(List.getElem?_eq_some_iff.1 hz).1
      rw[h2]; exact this
     exact⟨_,List.getElem?_eq_getElem hlt,h1 i z _ hz (List.getElem?_eq_getElem hlt)⟩
    refine run g (x++c.args.toList.map a.eval++y) ?_ (wN hcl hgb h hg hr (by simp only[List.length_append,e1,e3,h2]) (jb (by simp only[List.length_append,e1,h2]) (jb e1 e2 e5) e4) hK)
    have h7:c.args.map a.eval=(c.args.toList.map a.eval).toArray:=by rw[←cj]
    have h8:(x++c.args.toList.map a.eval++y).toArray=x.toArray++c.args.map a.eval++y.toArray:=by rw[h7]; simp
    rw[h8]
    simp only[execOp,hop,resolve,hc,h5,Deferred.ofValue,Sem.run_bind,Sem.run_pure,Result.andThen_ok,invoke]
   ·rename_i id args hf hl
    obtain⟨h1,h2⟩:=dE (ρ:=ρ) (j:=j) (a:=a) hl (fun x _ v hv=>hr.ev hv)
    have h4:(j.g.y id).map (fun l=>Value.func (.yield l) #[] #[])=some (a.eval f):=hr.ev hf
    rw[Option.map_eq_some_iff] at h4
    obtain⟨l,hyl,h5⟩:=h4
    obtain⟨f',tmps',assign',body',h6,h7⟩:=abA hcl h hg hr (vals:=c.args.toList.map a.eval) (by simpa using h2) hyl (fun i x hx=>by
     have hlt:i<(c.args.toList.map a.eval).length:=by
      have:=(List.getElem?_eq_some_iff.1 hx).1
      rw[h2]; exact this
     exact⟨_,List.getElem?_eq_getElem hlt,h1 i x _ hx (List.getElem?_eq_getElem hlt)⟩) hK
    have h8:c.args.map a.eval=(c.args.toList.map a.eval).toArray:=by rw[←cj]
    refine⟨fun _ _=>trivial,?_⟩
    rw[Oper.semAt_eq _ _ _ (by simp[hop])]
    have h9:(execOp a.eval o).run P w=.ok (.round l f' tmps' assign' body') w:=by
     rw[←h6,←h8]
     simp only[execOp,hop,resolve,hc,←h5,Deferred.ofValue,Sem.run_bind,Sem.run_pure,Result.andThen_ok,invoke,Array.empty_append,Array.append_empty]
    rw[h9]
    refine⟨rT,(h7 ro).mono ?_⟩
    rintro e' w' ⟨u,rfl,hk⟩
    exact hk
   ·exact h.elim
  ·exact h.elim
 ·rename_i x hop
  split at h
  ·rename_i id mid hx
   exact h.elim
  ·exact h.elim
 ·exact h.elim
theorem zI {rs:List Rec} {o:Oper} (h:rs.map (·.o)=[o]):∃r,rs=[r]:=by
 cases rs with
 | nil=>cases h
 | cons r l=>cases l with
   | nil=>exact⟨r,rfl⟩
   | cons=>simp at h
theorem qu {o:Oper} {i:Nat} (ho:ops[i]? =some o) {s:St} {kw:Kw} {k:St→Kw→Tr} {j:J} {a:Act} {w:World} (h:(xU o s kw k).holds sp G ρ I) (hg:Good sp cx.sm ρ kw) (hr:At cx ρ n X W0 s j a w) (hw:Region.wanted o (yielded ops a.tmps)=false)
  {K:Act→World→Prop} {Q:Exit→Act→World→Prop}
  (hK:∀s' kw' ρ' I' j' a' w',(k s' kw').holds sp G ρ' I'→Good sp cx.sm ρ' kw'→Nx kw kw' ρ ρ' I I'→At cx ρ' n X W0 s' j' a' w'→K a' w'):wpOpIn (Fw ro) 0 P ops Q i K a w:=by
 unfold xU at h
 split at h
 ·rename_i s' hs'
  obtain⟨e1,e2,e3,_,_,_⟩:=St.app_ok hr.le hs'
  unfold wpOpIn
  simp only[ho,hw]
  refine⟨fun _ _=>trivial,hK s' kw ρ I j _ w h hg (.refl _ _ _) ⟨?_,by rw[e2.1]; exact hr.len,by rw[e2.2]; exact hr.own⟩⟩
  rw[e1]
  exact hr.rel.put rfl (fun d hd=>by rw[←hr.own]; exact e3 d hd)
 ·exact h.elim
theorem qd (hT:∀t i,(t,i)∈cx.ty→TIok P t i) (hS:∀s∈cx.sm,SmOk P sp s) (hkeys:∀s∈cx.sm,∀s'∈cx.sm,s.key=s'.key→s=s') (hcl:ClOk P sp G cx ry cl X W0) {o:Oper} {i:Nat} (ho:ops[i]? =some o) {s:St} {kw:Kw} {k:St→Kw→Tr} {j:J} {a:Act} {w:World}
  (h:(barK cl cx ops o s kw k).holds sp G ρ I) (hg:Good sp cx.sm ρ kw) (hr:At cx ρ n X W0 s j a w) {K:Act→World→Prop} {Q:Exit→Act→World→Prop}
  (hK:∀s' kw' ρ' I' j' a' w',(k s' kw').holds sp G ρ' I'→Good sp cx.sm ρ' kw'→Nx kw kw' ρ ρ' I I'→At cx ρ' n X W0 s' j' a' w'→K a' w'):wpOpIn (Fw ro) 0 P ops Q i K a w:=by
 unfold barK at h
 split at h
 ·obtain⟨rs,s',kw',h1,g1,l1,h2,h3,h4,h5⟩:=ed (P:=P) (base:=W0.heap.size) hT hS hkeys [o] s kw _ h hg hr.le
  obtain⟨r,rfl⟩:=zI h2
  have e2:r.o=o:=by simpa using h2
  have h6:=h5 0 r rfl
  rw[hr.own] at h6
  subst e2
  refine ey hr.rel h6 ho (fun j' a' w' h'=>hK s' kw' ρ I j' a' w' h1 g1 (.of l1 _ _) ⟨?_,by rw[h4.1]; exact hr.len,by rw[h4.2]; exact hr.own⟩)
  rw[h3]
  exact h'
 ·split at h
  ·rename_i hgd
   unfold wpOpIn
   simp only[ho,Region.wanted,hgd,if_true]
   exact zR hT hcl h hg hr hK
  ·rename_i g b hgd
   have tmpAt:∀v,((ops[g]?).bind (·.dst)).bind (fun t=>if Nat.blt t s.n then s.tmps.get? t else none)=some v→∃t,(ops[g]?).bind (·.dst)=some t∧t<n∧s.fs.tmp t=v:=by
    intro v h
    rw[Option.bind_eq_some_iff] at h
    obtain⟨t,h1,h2⟩:=h
    split at h2
    ·rename_i ht
     refine⟨t,h1,?_,by simp[St.fs,fsOf,h2]⟩
     rw[←hr.own]
     simpa[Nat.blt_eq] using ht
    ·cases h2
   split at h
   ·rename_i e he
    obtain⟨t,h1,h2,h3⟩:=tmpAt _ he
    obtain⟨h4,-⟩:=gz hr.rel h1 h2
    have h5:=h4 e h3
    obtain⟨kw1,h6,g6,v6,l6⟩:=ak _ _ _ h hg
    have hnx:Nx kw kw1 ρ ρ I I:=.of l6 _ _
    have hw:Region.wanted o (yielded ops a.tmps)=(e.B ρ==b):=by
     simp only[Region.wanted,hgd,h5]
     cases e.B ρ<;>cases b<;>rfl
    split at h6
    ·rename_i hb
     unfold wpOpIn
     simp only[ho,hw,hb,if_true]
     exact(zR hT hcl h6 g6 hr (fun s' kw' ρ' I' j' a' w' q1 q2 q3 q4=>hK s' kw' ρ' I' j' a' w' q1 q2 (hnx.trans q3) q4))
    ·rename_i hb
     exact qu ho h6 g6 hr (by rw[hw]; simpa using hb) (fun s' kw' ρ' I' j' a' w' q1 q2 q3 q4=>hK s' kw' ρ' I' j' a' w' q1 q2 (hnx.trans q3) q4)
   ·rename_i he
    obtain⟨t,h1,h2,h3⟩:=tmpAt _ he
    obtain⟨-,h4⟩:=gz hr.rel h1 h2
    refine qu ho h hg hr ?_ hK
    simp only[Region.wanted,hgd,h4 h3]
    rfl
   ·exact h.elim
theorem wd (hT:∀t i,(t,i)∈cx.ty→TIok P t i) (hS:∀s∈cx.sm,SmOk P sp s) (hkeys:∀s∈cx.sm,∀s'∈cx.sm,s.key=s'.key→s=s') (hcl:ClOk P sp G cx ry cl X W0) {Q:Exit→Act→World→Prop}:
  ∀(l:List Oper) (i:Nat),(∀(m:Nat) o,l[m]? =some o→ops[i+m]? =some o)→∀(s:St) (kw:Kw) (k:St→Kw→Tr) (ρ:Env) (I:Nat→List Dt→Prop) (j:J) (a:Act) (w:World),(regS cl cx ops l s kw k).holds sp G ρ I→Good sp cx.sm ρ kw→At cx ρ n X W0 s j a w→
   (∀s' kw' ρ' I' j' a' w',(k s' kw').holds sp G ρ' I'→Good sp cx.sm ρ' kw'→Nx kw kw' ρ ρ' I I'→At cx ρ' n X W0 s' j' a' w'→Q .normal a' w')→wpOpsIn (Fw ro) 0 P ops Q (List.range' i l.length) a w
 | [],i,hi,s,kw,k,ρ,I,j,a,w,h,hg,hr,hK=>by
   simp only[List.length_nil,List.range'_zero,wpOpsIn]
   exact hK s kw ρ I j a w h hg (.refl _ _ _) hr
 | o::l,i,hi,s,kw,k,ρ,I,j,a,w,h,hg,hr,hK=>by
   simp only[List.length_cons,List.range'_succ]
   rw[wpOpsIn_cons]
   have ho:ops[i]? =some o:=hi 0 o rfl
   have tail:∀s' kw' ρ' I' j' a' w',(regS cl cx ops l s' kw' k).holds sp G ρ' I'→Good sp cx.sm ρ' kw'→Nx kw kw' ρ ρ' I I'→At cx ρ' n X W0 s' j' a' w'→wpOpsIn (Fw ro) 0 P ops Q (List.range' (i+1) l.length) a' w':=
    fun s' kw' ρ' I' j' a' w' q1 q2 q3 q4=>wd hT hS hkeys hcl l (i+1) (fun m o hm=>by rw[Nat.add_assoc,Nat.add_comm 1 m]; exact hi (m+1) o (by simpa using hm)) s' kw' k ρ' I' j' a' w' q1 q2 q4
     (fun s2 kw2 ρ2 I2 j2 a2 w2 p1 p2 p3 p4=>hK s2 kw2 ρ2 I2 j2 a2 w2 p1 p2 (q3.trans p3) p4)
   simp only[regS] at h
   split at h
   ·exact qd hT hS hkeys hcl ho h hg hr tail
   ·obtain⟨rs,s',kw',h1,g1,l1,h2,h3,h4,h5⟩:=ed (P:=P) (base:=W0.heap.size) hT hS hkeys [o] s kw _ h hg hr.le
    obtain⟨r,rfl⟩:=zI h2
    have e2:r.o=o:=by simpa using h2
    have h6:=h5 0 r rfl
    rw[hr.own] at h6
    subst e2
    refine ey hr.rel h6 ho (fun j' a' w' h'=>tail s' kw' ρ I j' a' w' h1 g1 (.of l1 _ _) ⟨?_,by rw[h4.1]; exact hr.len,by rw[h4.2]; exact hr.own⟩)
    rw[h3]
    exact h'
end
end Go.Proofs.Ytghiofgomcihcaa
