import Derived.Test.YtghiofgomcihcaaSyG3
import Derived.Sort.Row
set_option linter.unusedVariables false
set_option linter.unusedSimpArgs false
namespace Go.Proofs.Ytghiofgomcihcaa
open Go.RowKit
open Go.Sort (mapBlock onCells setCell_eq mapBlock_mapBlock mapBlock_congr)
section
variable {P:Program} {sp:Spec} {ρ:Env} {G:Env→E→Prop} {I:Nat→List Dt→Prop} {base:Nat} {cx:Cx} {vw:Vw} {o:Oper} {k:Eff→Kw→Tr}
theorem yR (e:E) (n:Nat):(inR e n).B ρ=(decide (0≤e.I ρ)&&decide (e.I ρ<(n:Int))):=by
 unfold inR
 rw[bN,bl,aG,aG]
 show(!decide (e.I ρ<0)&&decide (e.I ρ<(n:Int)))=_
 congr 1
 by_cases h:e.I ρ<0
 ·rw[decide_eq_true h,decide_eq_false (by omega:¬0≤e.I ρ)]; rfl
 ·rw[decide_eq_false h,decide_eq_true (by omega:0≤e.I ρ)]; rfl
theorem rE {j:J} {b o n sz:Nat} {e:E} {off fo:Nat} {v:Value} (h:(C.pe b o n sz e off).den ρ j=some v):∃a,v=.pointer (some a)∧(C.pe b o n sz e (off+fo)).den ρ j=some (.pointer (some (a.add fo))):=by
 simp only[C.den,Option.map_eq_some_iff] at h
 obtain⟨kk,hk,rfl⟩:=h
 exact⟨_,rfl,by simp only[C.den,hk,Option.map_some,bi]; congr 4; omega⟩
theorem lI {x:Operand} {kw:Kw} (hop:o.op=.nilCheck x) {b o0 n sz off:Nat} {e:E} (hx:vw.ev x=some (.one (.pe b o0 n sz e off))) (h:(k {val:=.one (.pe b o0 n sz e off)} kw).holds sp G ρ I) (hg:Good sp cx.sm ρ kw):Sound P sp ρ G I base cx vw o k kw:=by
 refine⟨_,kw,h,hg,.refl _,OpOk.pure fun j a w _ hev _ _ _=>⟨a.eval x,hev x (by simp[hop,Op.operands]) _ hx,?_⟩⟩
 have hd:=hev x (by simp[hop,Op.operands]) _ hx
 obtain⟨a',he,_⟩:=rE (fo:=0) (show(C.pe b o0 n sz e off).den ρ j=some (a.eval x) from hd)
 simp[execOp,hop,he]
theorem aa2 {j:J} {b o n sz off:Nat} {e:E} {v:Value} (h:(V.one (.pe b o n sz e off)).den ρ j=some v):∃kk,j.b b=some kk∧v=.pointer (some ⟨kk,o+((e.I ρ).toNat*sz+off),none⟩):=by
 simp only[V.den,C.den,Option.map_eq_some_iff] at h
 obtain⟨kk,h1,h2⟩:=h
 exact⟨kk,h1,h2.symm⟩
theorem nt (hT:∀t i,(t,i)∈cx.ty→TIok P t i) {t:Nat} {x y:Operand} {kw:Kw} (hop:o.op=.indexAddr t x y) {b off:Nat} (hx:vw.ev x=some (.one (.ptr b off))) {k0:IntKind} {e:E} (hy:vw.ev y=some (.one (.int k0 e))) {i:TI} (hi:af t cx.ty=some i)
  {n et:Nat} (ha:i.arr=some (n,et)) {ie:TI} (hie:af et cx.ty=some ie)
  (h:(decK (inR e n) (fun ok kw=>if ok then k {val:=.one (.pe b off n ie.size e 0)} kw else .panic) kw).holds sp G ρ I) (hg:Good sp cx.sm ρ kw):Sound P sp ρ G I base cx vw o k kw:=by
 obtain⟨kw1,g1,q1,_,l1⟩:=ak _ _ _ h hg
 rw[yR] at g1
 split at g1
 ·rename_i hr
  rw[Bool.and_eq_true,decide_eq_true_eq,decide_eq_true_eq] at hr
  have hu:=(hT _ _ (ab hi)).arr n et ha
  have hs:=(hT _ _ (ab hie)).size
  refine⟨_,kw1,g1,q1,l1,OpOk.pure fun j a w _ hev _ _ _=> ?_⟩
  obtain⟨kk,hk,he⟩:=eU (hev x (by simp[hop,Op.operands]) _ hx)
  have hq:=aQ (hev y (by simp[hop,Op.operands]) _ hy)
  refine⟨.pointer (some ⟨kk,off+((e.I ρ).toNat*ie.size+0),none⟩),by simp[V.den,C.den,hk],?_⟩
  have hadd:(⟨kk,off,none⟩:Addr).add ((e.I ρ).toNat*ie.size)=⟨kk,off+((e.I ρ).toNat*ie.size+0),none⟩:=by rw[bi]; simp
  simp[execOp,hop,he,hq,Instr.indexAt,run_underlying hu,Instr.sureAddr,asIntOf,hr,hs,Sem.run_bind,hadd]
 ·exact g1.elim
theorem xo {j:J} {k0:IntKind} {sz c:Nat}:∀(n:Nat) (cs:List C) (l:E) (vs:List Value),colE k0 sz c n cs=some l→denL ρ j cs=some vs→∀m,m<n→vs[m*sz+c]? =some (.int k0 ((l.L ρ).getD m 0))
 | 0,cs,l,vs,_,_,m,hm=>absurd hm (by omega)
 | n+1,cs,l,vs,h,hd,m,hm=>by
   simp only[colE] at h
   split at h
   ·rename_i k' a t h1 h2
    split at h
    ·rename_i hk
     cases h
     cases m with
     | zero=>
       obtain⟨v,h3,h4⟩:=bz hd c _ h1
       rw[Nat.zero_mul,Nat.zero_add,h3,←h4,ao hk]
       simp[C.den,E.L]
     | succ m=>
       have ih:=xo n _ t _ h2 (em hd sz) m (by omega)
       rw[List.getElem?_drop] at ih
       rw[show(m+1)*sz+c=sz+(m*sz+c) by rw[Nat.succ_mul]; omega,ih]
       simp[E.L]
    ·cases h
   ·cases h
theorem mL {j:J} {e:E} {n sz:Nat} {cs:List C} {vs:List Value} (hd:denL ρ j cs=some vs) (h0:0≤e.I ρ) (h1:e.I ρ<(n:Int)):∀(m c:Nat) (ds:List C),pX e n sz cs c m=some ds→ds.length=m∧denL ρ j ds=some ((vs.drop ((e.I ρ).toNat*sz+c)).take m)
 | 0,c,ds,h=>by cases h; simp[denL]
 | m+1,c,ds,h=>by
   simp only[pX] at h
   split at h
   ·rename_i k0 a hc
    split at h
    ·rename_i l r h2 h3
     cases h
     obtain⟨e1,e2⟩:=mL hd h0 h1 m (c+1) r h3
     have e3:=xo n cs l vs h2 hd (e.I ρ).toNat (by omega)
     refine⟨by simp[e1],?_⟩
     simp only[denL,C.den,E.I,e2]
     have hlt:=(List.getElem?_eq_some_iff.1 e3).1
     rw[List.drop_eq_getElem_cons hlt,List.take_succ_cons,(List.getElem?_eq_some_iff.1 e3).2]
     rfl
    ·cases h
   ·cases h
theorem uF (hT:∀t i,(t,i)∈cx.ty→TIok P t i) {t:Nat} {x:Operand} {kw:Kw} (hop:o.op=.load t x) {b o0 n sz off:Nat} {e:E} (hx:vw.ev x=some (.one (.pe b o0 n sz e off))) {i:TI} (hi:af t cx.ty=some i) {cs:List C} (hcs:vw.row b o0 (n*sz)=some cs) (hsz:off+i.size≤sz)
  (h:(decK (inR e n) (fun ok kw=>if ok then
      (match pX e n sz cs off i.size with
      | some ds=>if i.agg then k {val:=.agg ds,rd:=bG b o0 (n*sz)} kw else(match ds with
        | [d]=>k {val:=.one d,rd:=bG b o0 (n*sz)} kw
        | _=>.stuck 160)
      | none=>.stuck 161)
      else .stuck 162) kw).holds sp G ρ I) (hg:Good sp cx.sm ρ kw):Sound P sp ρ G I base cx vw o k kw:=by
 obtain⟨kw1,g1,q1,_,l1⟩:=ak _ _ _ h hg
 rw[yR] at g1
 split at g1
 ·rename_i hr
  rw[Bool.and_eq_true,decide_eq_true_eq,decide_eq_true_eq] at hr
  have ht:=hT _ _ (ab hi)
  have hrow:=vw.rowok _ _ _ _ hcs
  split at g1
  ·rename_i ds hds
   have cells:∀{j:J} {w:World} {kk:Nat},j.b b=some kk→RdOk ρ j w vw.ld (bG b o0 (n*sz))→∃us,denL ρ j ds=some us∧us.length=i.size∧∀(m:Nat) u,us[m]? =some u→w.cell? ⟨kk,o0+((e.I ρ).toNat*sz+off)+m,none⟩=some u:=by
    intro j w kk hk hrd
    obtain⟨vs,hd,-⟩:=bI (P:=P) (ρ:=ρ) hk (n*sz) o0 cs hrow w hrd ⟨kk,o0,none⟩ 0 #[] (fun m=>by rw[bi]; simp)
    obtain⟨e1,e2⟩:=mL hd hr.1 hr.2 i.size off ds hds
    refine⟨_,e2,by rw[aA e2,e1],fun m u hu=> ?_⟩
    rw[List.getElem?_take] at hu
    split at hu
    ·rw[List.getElem?_drop] at hu
     obtain⟨hl,hget⟩:=dW _ _ _ hrow
     have hlt:=(List.getElem?_eq_some_iff.1 hu).1
     rw[aA hd] at hlt
     obtain⟨c0,hc0⟩:∃c0,cs[(e.I ρ).toNat*sz+off+m]? =some c0:=⟨_,List.getElem?_eq_getElem hlt⟩
     have hld:=hget _ c0 hc0
     obtain⟨k',v,hk',hv,hcell⟩:=hrd (b,o0+((e.I ρ).toNat*sz+off+m)) (by
      have:∀(n o p:Nat),p<n→(b,o+p)∈bG b o n:=by
       intro n
       induction n with
       | zero=>intro o p hp; omega
       | succ n ih=>
         intro o p hp
         cases p with
         | zero=>simp[bG]
         | succ p=>simp only[bG,List.mem_cons]; exact .inr (by have:=ih (o+1) p (by omega); rwa [show o+(p+1)=o+1+p by omega])
      exact this _ _ _ (by omega)) c0 hld
     simp only at hk' hcell
     rw[hk] at hk'; cases hk'
     obtain⟨v',hv',hd'⟩:=bz hd _ c0 hc0
     rw[hv] at hd'; cases hd'
     rw[hv'] at hu; cases hu
     rw[Nat.add_assoc]
     exact hcell
    ·cases hu
   split at g1
   ·rename_i hagg
    refine⟨_,kw1,g1,q1,l1,OpOk.pure fun j a w _ hev hrd _ _=> ?_⟩
    obtain⟨kk,hk,he⟩:=aa2 (hev x (by simp[hop,Op.operands]) _ hx)
    obtain⟨us,h1,h2,h3⟩:=cells hk hrd
    refine⟨.agg us.toArray,by simp[V.den,h1],?_⟩
    have hload:=bC (P:=P) (a:=⟨kk,o0+((e.I ρ).toNat*sz+off),none⟩) (w:=w) us 0 #[] (fun m u hu=>by rw[Nat.zero_add,bi]; exact h3 m u hu)
    rw[h2] at hload
    simp[execOp,hop,he,Instr.loadAt,Instr.sureAddr,Sem.run_bind,loadVar,ht.agg,hagg,ht.size,loadCells,hload]
   ·rename_i hagg
    split at g1
    ·rename_i d
     refine⟨_,kw1,g1,q1,l1,OpOk.pure fun j a w _ hev hrd _ _=> ?_⟩
     obtain⟨kk,hk,he⟩:=aa2 (hev x (by simp[hop,Op.operands]) _ hx)
     obtain⟨us,h1,h2,h3⟩:=cells hk hrd
     simp only[denL] at h1
     cases hdd:d.den ρ j with
     | none=>rw[hdd] at h1; cases h1
     | some v=>
       rw[hdd] at h1; cases h1
       have hcell:=h3 0 v rfl
       rw[Nat.add_zero] at hcell
       have hagg':i.agg=false:=by simpa using hagg
       refine⟨v,hdd,?_⟩
       simp[execOp,hop,he,Instr.loadAt,Instr.sureAddr,Sem.run_bind,loadVar,ht.agg,hagg',load,Sem.run,hcell]
    ·exact g1.elim
  ·exact g1.elim
 ·exact g1.elim
def setV:Nat→List Value→List Value→List Value
 | off+1,x::xs,us=>x::setV off xs us
 | 0,x::xs,u::us=>u::setV 0 xs us
 | _,xs,_=>xs
theorem df:∀(off:Nat) (xs us:List Value) (p:Nat),(setV off xs us)[p]? =if off≤p∧p<off+us.length∧p<xs.length then us[p-off]? else xs[p]?
 | off+1,x::xs,us,0=>by simp[setV]
 | off+1,x::xs,us,p+1=>by
   simp only[setV,List.getElem?_cons_succ,df off xs us p,List.length_cons]
   by_cases h:off≤p∧p<off+us.length∧p<xs.length
   ·rw[if_pos h,if_pos (by omega)]; congr 1; omega
   ·rw[if_neg h,if_neg (by omega)]
 | 0,x::xs,u::us,0=>by simp[setV]
 | 0,x::xs,u::us,p+1=>by
   simp only[setV,List.getElem?_cons_succ,df 0 xs us p,List.length_cons]
   by_cases h:0≤p∧p<0+us.length∧p<xs.length
   ·rw[if_pos h,if_pos (by omega)]; simp
   ·rw[if_neg h,if_neg (by omega)]
 | 0,x::xs,[],p=>by
   rw[if_neg (by simp)]
   rfl
 | 0,[],us,p=>by cases us<;>simp[setV]
 | off+1,[],us,p=>by simp[setV]
theorem bA:∀(off:Nat) (xs us:List Value),(setV off xs us).length=xs.length
 | off+1,x::xs,us=>by simp[setV,bA off xs us]
 | 0,x::xs,u::us=>by simp[setV,bA 0 xs us]
 | 0,x::xs,[]=>rfl
 | 0,[],us=>by cases us<;>rfl
 | off+1,[],us=>rfl
theorem pd {j:J} {c:E}:∀(off:Nat) (xs vc r:List C) (vs us:List Value),setI c off xs vc=some r→denL ρ j xs=some vs→denL ρ j vc=some us→denL ρ j r=some (if c.B ρ=true then setV off vs us else vs)
 | off+1,x::xs,vc,r,vs,us,h,h1,h2=>by
   simp only[setI,Option.map_eq_some_iff] at h
   obtain⟨r',h3,rfl⟩:=h
   simp only[denL] at h1
   cases hx:x.den ρ j with
   | none=>rw[hx] at h1; cases h1
   | some v=>
     cases hl:denL ρ j xs with
     | none=>rw[hx,hl] at h1; cases h1
     | some l=>
       rw[hx,hl] at h1; cases h1
       simp only[denL,hx,pd off xs vc r' l us h3 hl h2]
       split<;>simp[setV]
 | 0,xs,[],r,vs,us,h,h1,h2=>by
   cases h2
   have:r=xs:=by cases xs<;>simpa[setI] using h.symm
   subst this
   rw[h1]
   cases vs<;>simp[setV]
 | 0,x::xs,y::vc,r,vs,us,h,h1,h2=>by
   cases x<;>first | (simp only[setI] at h; cases h; done) | skip
   cases y<;>first | (simp only[setI] at h; cases h; done) | skip
   rename_i k a k' b
   simp only[setI] at h
   split at h
   ·rename_i hk
    rw[Option.map_eq_some_iff] at h
    obtain⟨r',h3,rfl⟩:=h
    simp only[denL,C.den] at h1 h2
    cases hl:denL ρ j xs with
    | none=>rw[hl] at h1; cases h1
    | some l=>
      cases hm:denL ρ j vc with
      | none=>rw[hm] at h2; cases h2
      | some m=>
        rw[hl] at h1; cases h1
        rw[hm] at h2; cases h2
        simp only[denL,C.den,E.I,pd 0 xs vc r' l m h3 hl hm]
        split<;>simp[setV,ao hk]
   ·cases h
 | 0,[],y::vc,r,vs,us,h,h1,h2=>by simp[setI] at h
 | off+1,[],vc,r,vs,us,h,h1,h2=>by simp[setI] at h
theorem wL {j:J} {e:E} {off sz:Nat} {vc:List C} {us:List Value} (hu:denL ρ j vc=some us) (hsz:off+us.length≤sz) (h0:0≤e.I ρ):∀(n m0:Nat) (cs ds:List C) (vs:List Value),iteR e off sz vc m0 n cs=some ds→denL ρ j cs=some vs→vs.length=n*sz→
  denL ρ j ds=some (if m0≤(e.I ρ).toNat∧(e.I ρ).toNat<m0+n then setV (((e.I ρ).toNat-m0)*sz+off) vs us else vs)
 | 0,m0,cs,ds,vs,h,hd,hl=>by
   cases h
   rw[if_neg (by omega),hd]
 | n+1,m0,cs,ds,vs,h,hd,hl=>by
   simp only[iteR] at h
   split at h
   ·rename_i a b h1 h2
    cases h
    have e1:=pd off _ _ _ _ _ h1 (gu hd sz) hu
    have hl2:(vs.drop sz).length=n*sz:=by rw[List.length_drop,hl,Nat.succ_mul]; omega
    have e2:=wL hu hsz h0 n (m0+1) _ _ _ h2 (em hd sz) hl2
    have hge:sz≤vs.length:=by rw[hl,Nat.succ_mul]; omega
    rw[dx e1 e2]
    congr 1
    have hB:(E.eq e (.lit (m0:Int))).B ρ=decide ((e.I ρ).toNat=m0):=by
     simp only[E.B,E.I]
     rw[Bool.eq_iff_iff]
     simp only[beq_iff_eq,decide_eq_true_eq]
     omega
    rw[hB]
    generalize (e.I ρ).toNat=M
    apply List.ext_getElem?
    intro p
    have tl:(vs.take sz).length=sz:=by rw[List.length_take]; omega
    by_cases hM:M=m0
    ·subst hM
     rw[if_pos (by simp),if_neg (by omega),if_pos (by omega),Nat.sub_self,Nat.zero_mul,Nat.zero_add,df]
     by_cases hp:p<sz
     ·rw[List.getElem?_append_left (by rw[bA,tl]; exact hp),df,tl,List.getElem?_take,if_pos hp]
      by_cases hq:off≤p∧p<off+us.length∧p<sz
      ·rw[if_pos hq,if_pos (by omega)]
      ·rw[if_neg hq,if_neg (by omega)]
     ·rw[List.getElem?_append_right (by rw[bA,tl]; omega),bA,tl,List.getElem?_drop,if_neg (by omega)]
      congr 1; omega
    ·rw[if_neg (by simpa using hM)]
     by_cases hr:m0+1≤M∧M<m0+1+n
     ·rw[if_pos hr,if_pos (by omega),df]
      have hmul:(M-m0)*sz=sz+(M-(m0+1))*sz:=by
       rw[show M-m0=(M-(m0+1))+1 by omega,Nat.succ_mul]; omega
      by_cases hp:p<sz
      ·rw[List.getElem?_append_left (by rw[tl]; exact hp),List.getElem?_take,if_pos hp,if_neg (by omega)]
      ·rw[List.getElem?_append_right (by rw[tl]; omega),tl,df,List.getElem?_drop,hl2]
       have hps:sz+(p-sz)=p:=by omega
       rw[hps]
       have hlen:vs.length=sz+n*sz:=by rw[hl,Nat.succ_mul]; omega
       by_cases hq:(M-(m0+1))*sz+off≤p-sz∧p-sz<(M-(m0+1))*sz+off+us.length∧p-sz<n*sz
       ·rw[if_pos hq,if_pos (by omega)]
        congr 1; omega
       ·rw[if_neg hq,if_neg (by omega)]
     ·rw[if_neg hr,if_neg (by omega),List.take_append_drop]
   ·cases h
def putA:Nat→List Value→Array Value→Array Value
 | _,[],c=>c
 | o,v::vs,c=>putA (o+1) vs (c.setIfInBounds o v)
theorem mh:∀(vs:List Value) (o:Nat) (c:Array Value) (i:Nat),(putA o vs c)[i]? =if o≤i∧i<o+vs.length∧i<c.size then vs[i-o]? else c[i]?
 | [],o,c,i=>by rw[if_neg (by simp only[List.length_nil]; omega)]; rfl
 | v::vs,o,c,i=>by
   simp only[putA,mh vs (o+1),Array.size_setIfInBounds,List.length_cons]
   rcases Nat.lt_trichotomy i o with h | h | h
   ·rw[if_neg (by omega),if_neg (by omega),Array.getElem?_setIfInBounds,if_neg (by omega)]
   ·subst h
    rw[if_neg (by omega),Array.getElem?_setIfInBounds,if_pos rfl]
    by_cases hs:i<c.size
    ·rw[if_pos hs,if_pos (by omega)]; simp
    ·rw[if_neg hs,if_neg (by omega),Array.getElem?_eq_none (by omega)]
   ·by_cases hq:o+1≤i∧i<o+1+vs.length∧i<c.size
    ·rw[if_pos hq,if_pos (by omega),show i-o=(i-(o+1))+1 by omega]; rfl
    ·rw[if_neg hq,if_neg (by omega),Array.getElem?_setIfInBounds,if_neg (by omega)]
theorem gA {j:J} {b kk:Nat} (hk:j.b b=some kk):∀(cs:List C) (o:Nat) (vs:List Value) (w:World),denL ρ j cs=some vs→lB ρ j (bZ b o cs) w (mapBlock w kk (putA o vs))∧∀w',lB ρ j (bZ b o cs) w w'→w'=mapBlock w kk (putA o vs)
 | [],o,vs,w,hd=>by
   cases hd
   have e:mapBlock w kk (putA o [])=w:=Go.Sort.mapBlock_id w kk _ (fun c e fr _=>rfl)
   rw[e]
   exact⟨rfl,fun w' h=>h⟩
 | c::cs,o,vs,w,hd=>by
   simp only[denL] at hd
   cases hc:c.den ρ j with
   | none=>rw[hc] at hd; cases hd
   | some v=>
     cases hl:denL ρ j cs with
     | none=>rw[hc,hl] at hd; cases hd
     | some l=>
       rw[hc,hl] at hd; cases hd
       obtain⟨i1,i2⟩:=gA hk cs (o+1) l (w.setCell ⟨kk,o,none⟩ v) hl
       have e:mapBlock (w.setCell ⟨kk,o,none⟩ v) kk (putA (o+1) l)=mapBlock w kk (putA o (v::l)):=by
        rw[setCell_eq,mapBlock_mapBlock]
        rfl
       rw[e] at i1 i2
       refine⟨⟨kk,v,hk,hc,i1⟩,?_⟩
       rintro w' ⟨k2,v2,g1,g2,g3⟩
       rw[hk] at g1; cases g1
       rw[hc] at g2; cases g2
       exact i2 w' g3
theorem nZ {b:Nat}:∀(n o p:Nat),p<n→(b,o+p)∈bG b o n
 | 0,_,_,h=>absurd h (by omega)
 | n+1,o,0,_=>by simp[bG]
 | n+1,o,p+1,h=>by
   simp only[bG,List.mem_cons]
   have:=nZ (b:=b) n (o+1) p (by omega)
   rw[show o+1+p=o+(p+1) by omega] at this
   exact .inr this
theorem nY {b:Nat}:∀(cs:List C) (o p:Nat) (c:C),cs[p]? =some c→(b,o+p,c)∈bZ b o cs
 | [],_,_,_,h=>by simp at h
 | x::cs,o,0,c,h=>by simp at h; subst h; simp[bZ]
 | x::cs,o,p+1,c,h=>by
   simp only[bZ,List.mem_cons]
   have:=nY (b:=b) cs (o+1) p c (by simpa using h)
   rw[show o+1+p=o+(p+1) by omega] at this
   exact .inr this
theorem qT {b:Nat}:∀(cs:List C) (o:Nat) (q:Nat×Nat×C),q∈bZ b o cs→q.1=b∧∃p,p<cs.length∧q.2.1=o+p
 | [],_,q,h=>by simp[bZ] at h
 | x::cs,o,q,h=>by
   simp only[bZ,List.mem_cons] at h
   rcases h with rfl | h
   ·exact⟨rfl,0,by simp,rfl⟩
   ·obtain⟨h1,p,h2,h3⟩:=qT cs (o+1) q h
    exact⟨h1,p+1,by simp; omega,by omega⟩
theorem sy (hT:∀t i,(t,i)∈cx.ty→TIok P t i) {t:Nat} {x y:Operand} {kw:Kw} (hop:o.op=.store t x y) {b o0 n sz off:Nat} {e:E} (hx:vw.ev x=some (.one (.pe b o0 n sz e off))) {v:V} (hy:vw.ev y=some v) {i:TI} (hi:af t cx.ty=some i) {cs:List C} (hcs:vw.row b o0 (n*sz)=some cs)
  (hf:v.flat=true) (hn:v.cells.length=i.size) (hsz:off+i.size≤sz) (hcl:cs.length=n*sz)
  (h:(decK (inR e n) (fun ok kw=>if ok then
      (match iteR e off sz v.cells 0 n cs with
      | some ds=>if ds.all C.solid&&(cs.all C.solid&&v.cells.all C.solid) then k {val:=.one .undef,rd:=bG b o0 (n*sz),wr:=bZ b o0 ds} kw else .stuck 165
      | none=>.stuck 166)
      else .stuck 167) kw).holds sp G ρ I) (hg:Good sp cx.sm ρ kw):Sound P sp ρ G I base cx vw o k kw:=by
 obtain⟨kw1,g1,q1,_,l1⟩:=ak _ _ _ h hg
 rw[yR] at g1
 split at g1
 ·rename_i hr
  rw[Bool.and_eq_true,decide_eq_true_eq,decide_eq_true_eq] at hr
  have ht:=hT _ _ (ab hi)
  have hrow:=vw.rowok _ _ _ _ hcs
  split at g1
  ·rename_i ds hds
   split at g1
   ·rename_i hsol
    simp only[Bool.and_eq_true] at hsol
    refine⟨_,kw1,g1,q1,l1,fun j a w _ hev hrd hwr _ _ K Q hK=> ?_⟩
    obtain⟨kk,hk,he⟩:=aa2 (hev x (by simp[hop,Op.operands]) _ hx)
    have hd:=V.cells_ok (hev y (by simp[hop,Op.operands]) v hy) hf
    obtain⟨vs,hvs,-⟩:=bI (P:=P) (ρ:=ρ) hk (n*sz) o0 cs hrow w hrd ⟨kk,o0,none⟩ 0 #[] (fun m=>by rw[bi]; simp)
    have hul:(a.eval y).cells.toList.length=i.size:=by rw[aA hd,hn]
    have hvl:vs.length=n*sz:=by rw[aA hvs,hcl]
    have hnew:=wL hd (by rw[hul]; exact hsz) hr.1 n 0 cs ds vs hds hvs hvl
    rw[if_pos (by omega),Nat.sub_zero] at hnew
    generalize hM:(e.I ρ).toNat=M at *
    have hMn:M<n:=by omega
    have hMs:M*sz+off+i.size≤n*sz:=by
     have:(M+1)*sz≤n*sz:=Nat.mul_le_mul_right sz hMn
     rw[Nat.succ_mul] at this
     omega
    have old:∀p,p<n*sz→w.cell? ⟨kk,o0+p,none⟩=vs[p]? :=by
     intro p hp
     obtain⟨hl,hget⟩:=dW _ _ _ hrow
     obtain⟨c0,hc0⟩:∃c0,cs[p]? =some c0:=⟨_,List.getElem?_eq_getElem (by omega)⟩
     obtain⟨k',v',hk',hv',hcell⟩:=hrd (b,o0+p) (nZ _ _ _ hp) c0 (hget _ c0 hc0)
     simp only at hk' hcell
     rw[hk] at hk'; cases hk'
     obtain⟨v2,hv2,hd2⟩:=bz hvs p c0 hc0
     rw[hv'] at hd2; cases hd2
     rw[hcell,hv2]
    have hdl:ds.length=n*sz:=by
     have:=aA hnew
     rw[bA] at this
     omega
    have hw2:WrOk j w (bZ b (o0+(M*sz+off)) v.cells):=by
     intro q hq
     obtain⟨e1,p,e2,e3⟩:=qT _ _ _ hq
     obtain⟨c1,hc1⟩:∃c1,ds[M*sz+off+p]? =some c1:=⟨_,List.getElem?_eq_getElem (by omega)⟩
     obtain⟨k3,u3,f1,f2,f3⟩:=hwr _ (nY ds o0 _ c1 hc1)
     refine⟨k3,u3,by rw[e1]; exact f1,?_,?_⟩
     ·rw[e3,Nat.add_assoc]; exact f2
     ·rw[e3,Nat.add_assoc]; exact f3
    obtain⟨w',h1,h2⟩:=bP (P:=P) hk ⟨kk,o0+(M*sz+off),none⟩ v.cells (o0+(M*sz+off)) 0 _ w (fun m=>by rw[bi]; simp) hd hsol.2.2 hw2
    have e1:=(gA hk v.cells _ _ w hd).2 w' h1
    have e2:=(gA hk ds o0 _ w hnew).1
    have e3:mapBlock w kk (putA (o0+(M*sz+off)) (a.eval y).cells.toList)=mapBlock w kk (putA o0 (setV (M*sz+off) vs (a.eval y).cells.toList)):=by
     refine mapBlock_congr w kk _ _ fun c ec fr hc=> ?_
     have oldc:∀p,p<n*sz→c[o0+p]? =vs[p]? :=fun p hp=>by
      have:=old p hp
      rw[←this]
      simp[World.cell?,hc]
     apply Array.ext_getElem?
     intro q
     rw[mh,mh,bA,hvl]
     by_cases hq:o0≤q∧q<o0+n*sz∧q<c.size
     ·rw[if_pos hq,df]
      by_cases hq2:M*sz+off≤q-o0∧q-o0<M*sz+off+(a.eval y).cells.toList.length∧q-o0<vs.length
      ·rw[if_pos hq2,if_pos (by omega)]
       congr 1; omega
      ·rw[if_neg hq2,if_neg (by omega),←oldc (q-o0) (by omega)]
       congr 1; omega
     ·rw[if_neg hq,if_neg (by omega)]
    rw[e3] at e1
    have hsz':(a.eval y).cells.size=i.size:=by rw[←Array.length_toList]; exact hul
    refine tN (w':=w') ?_ (hK _ j w' rfl ⟨rfl,w,Ext.refl w,by rw[e1]; exact e2⟩)
    simp[execOp,hop,he,Instr.storeAt,Instr.sureAddr,Sem.run_bind,storeVar,ht.size,hsz',h2]
   ·exact g1.elim
  ·exact g1.elim
 ·exact g1.elim
end
end Go.Proofs.Ytghiofgomcihcaa
