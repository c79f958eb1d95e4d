import Derived.Test.YtghiofgomcihcaaSyG
set_option linter.unusedVariables false
set_option linter.unusedSimpArgs false
namespace Go.Proofs.Ytghiofgomcihcaa
open Go.RowKit
section
variable {P:Program} {sp:Spec} {ρ:Env} {G:Env→E→Prop} {I:Nat→List Dt→Prop} {base:Nat} {cx:Cx} {vw:Vw} {o:Oper} {k:Eff→Kw→Tr}
def lb:List Value→Nat→List Value→List Value
 | cs,_,[]=>cs
 | cs,off,v::r=>lb (cs.set off v) (off+1) r
theorem mJ {j:J}:∀{vs:List C} {us:List Value} {cs:List C} {ws:List Value} {off:Nat},denL ρ j vs=some us→denL ρ j cs=some ws→denL ρ j (setRow cs off vs)=some (lb ws off us)
 | [],us,cs,ws,off,h,h'=>by cases h; exact h'
 | v::vs,us,cs,ws,off,h,h'=>by
   simp only[denL] at h
   cases hc:v.den ρ j with
   | none=>rw[hc] at h; cases h
   | some u=>
     cases hl:denL ρ j vs with
     | none=>rw[hc,hl] at h; cases h
     | some l=>
       rw[hc,hl] at h; cases h
       exact mJ (vs:=vs) (us:=l) hl (lT h' off v u hc)
theorem nH (off:Nat):∀(l:List Value) (m:Nat) (cells:Array Value),((l.zipIdx m).foldl (fun cs (p:Value×Nat)=>cs.setIfInBounds (off+p.2) p.1) cells).toList=lb cells.toList (off+m) l
 | [],m,cells=>rfl
 | v::l,m,cells=>by
   simp only[List.zipIdx_cons,List.foldl_cons]
   rw[nH off l (m+1)]
   simp[lb,Nat.add_assoc]
theorem jr {j:J} {pl:Nat→Option (Nat×Nat)}:∀(parts:List (Nat×V)) (cs cs':List C) (us:List (Nat×Value)) (cells:Array Value),jK pl cs parts=some cs'→denL ρ j cs=some cells.toList→(parts.map (·.1)=us.map (·.1))→
  (∀(i:Nat) p u,parts[i]? =some p→us[i]? =some u→p.2.den ρ j=some u.2)→∃cells',Instr.fill pl cells us=some cells'∧denL ρ j cs'=some cells'.toList
 | [],cs,cs',us,cells,h,hd,hm,hu=>by
   cases us with
   | nil=>cases h; exact⟨cells,rfl,hd⟩
   | cons _ _=>simp at hm
 | (i,v)::parts,cs,cs',us,cells,h,hd,hm,hu=>by
   cases us with
   | nil=>simp at hm
   | cons u us=>
     obtain⟨i',u⟩:=u
     simp only[List.map_cons,List.cons.injEq] at hm
     obtain⟨rfl,hm⟩:=hm
     simp only[jK] at h
     split at h
     ·rename_i off size hp
      split at h
      ·rename_i hc
       simp only[Bool.and_eq_true,decide_eq_true_eq] at hc
       obtain⟨h1,h2,h3⟩:=hc
       have hv:=hu 0 _ _ rfl rfl
       have hcells:=V.cells_ok hv h1
       have hl1:=au hcells
       have hl2:=au hd
       rw[Nat.eq_of_beq_eq_true h2] at hl1
       simp only[Array.length_toList] at hl1 hl2
       have hrow:denL ρ j (setRow cs off v.cells)=some ((u.cells.zipIdx.foldl (fun cs (p:Value×Nat)=>cs.setIfInBounds (off+p.2) p.1) cells)).toList:=by
        rw[←Array.foldl_toList,Array.toList_zipIdx,nH]
        exact mJ hcells hd
       obtain⟨cells',h5,h6⟩:=jr parts _ cs' us _ h hrow hm (fun i p w hp' hw=>hu (i+1) p w (by simpa using hp') (by simpa using hw))
       refine⟨cells',?_,h6⟩
       unfold Instr.fill
       have hc1:¬(u.cells.size≠size||decide (off+u.cells.size>cells.size))=true:=by simp; omega
       simp only[hp]
       rw[if_neg hc1]
       exact h5
      ·cases h
     ·cases h
theorem qG {ev:Operand→Option V} {j:J} {a:Act}:∀{l:List (Nat×Operand)} {vs:List (Nat×V)},evP ev l=some vs→(∀x∈l.map (·.2),∀v,ev x=some v→v.den ρ j=some (a.eval x))→
  vs.map (·.1)=(l.map fun p=>(p.1,a.eval p.2)).map (·.1)∧∀(i:Nat) p u,vs[i]? =some p→(l.map fun p=>(p.1,a.eval p.2))[i]? =some u→p.2.den ρ j=some u.2
 | [],vs,h,hev=>by cases h; exact⟨rfl,fun i p u hp=>by simp at hp⟩
 | (n,x)::l,vs,h,hev=>by
   simp only[evP] at h
   cases hc:ev x with
   | none=>rw[hc] at h; cases h
   | some v=>
     cases hl:evP ev l with
     | none=>rw[hc,hl] at h; cases h
     | some us=>
       rw[hc,hl] at h; cases h
       obtain⟨h1,h2⟩:=qG (a:=a) (j:=j) hl (fun y hy=>hev y (List.mem_cons_of_mem _ hy))
       refine⟨by simp[h1],fun i p u hp hu=> ?_⟩
       cases i with
       | zero=>
         simp at hp hu
         subst hp hu
         exact hev x List.mem_cons_self v hc
       | succ i=>exact h2 i p u (by simpa using hp) (by simpa using hu)
theorem lI (z:Array Value) (n:Nat):(madeCells z (n*z.size)).toList=(List.replicate n z.toList).flatten:=by
 have hf:(madeCells z (n*z.size)).toList=(List.range (n*z.size)).map (fun i=>z[i % z.size]!):=by simp[madeCells]
 rw[hf]
 clear hf
 induction n with
 | zero=>simp
 | succ n ih=>
   rw[Nat.succ_mul,List.range_add,List.map_append,ih,List.replicate_succ',List.flatten_concat]
   congr 1
   apply List.ext_getElem?
   intro i
   by_cases hi:i<z.size
   ·have:(n*z.size+i) % z.size=i:=by rw[Nat.add_comm,Nat.add_mul_mod_self_right,Nat.mod_eq_of_lt hi]
    simp[hi,this]
   ·simp[hi]
theorem gq {j:J} {vk:List VK} (hv:Vk ρ vk):∀{ks:List CE} {cs:List C} {r:E} {vs:List Value},rowE vk ks cs=some r→denL ρ j cs=some vs→vs=rowV ks (r.L ρ)∧ah ks (r.L ρ)=true
 | [],[],r,vs,h,hd=>by cases h; cases hd; exact⟨rfl,rfl⟩
 | some k::ks,.int k' x::cs,r,vs,h,hd=>by
   simp only[rowE] at h
   split at h
   ·rename_i hk
    simp only[Bool.and_eq_true] at hk
    rw[Option.map_eq_some_iff] at h
    obtain⟨t,ht,rfl⟩:=h
    simp only[denL,C.den] at hd
    cases hl:denL ρ j cs with
    | none=>rw[hl] at hd; cases hd
    | some us=>
      rw[hl] at hd; cases hd
      obtain⟨h1,h2⟩:=gq hv ht hl
      refine⟨by simp only[E.L,rowV,cm]; rw[h1,ao hk.1],?_⟩
      simp only[E.L,ah,inCE,Bool.and_eq_true]
      exact⟨E.rng_ok hv x hk.2,h2⟩
   ·cases h
 | none::ks,.bool x::cs,r,vs,h,hd=>by
   simp only[rowE,Option.map_eq_some_iff] at h
   obtain⟨t,ht,rfl⟩:=h
   simp only[denL,C.den] at hd
   cases hl:denL ρ j cs with
   | none=>rw[hl] at hd; cases hd
   | some us=>
     rw[hl] at hd; cases hd
     obtain⟨h1,h2⟩:=gq hv ht hl
     refine⟨by simp only[E.L,rowV,cm]; rw[h1]; congr 2; cases x.B ρ<;>rfl,?_⟩
     simp only[E.L,ah,Bool.and_eq_true]
     exact⟨vW _,h2⟩
theorem pO {j:J} {vk:List VK} (hv:Vk ρ vk) {ks:List CE}:∀(n:Nat) {cs:List C} {l:E} {vs:List Value},rC vk ks n cs=some l→denL ρ j cs=some vs→vs=flat ks (l.R ρ)∧(l.R ρ).length=n∧∀r∈l.R ρ,ah ks r=true
 | 0,[],l,vs,h,hd=>by cases h; cases hd; exact⟨rfl,rfl,fun r hr=>by cases hr⟩
 | 0,_::_,l,vs,h,hd=>by simp[rC] at h
 | n+1,cs,l,vs,h,hd=>by
   simp only[rC] at h
   split at h
   ·rename_i r l' hr hl
    cases h
    obtain⟨h1,h2⟩:=gq hv hr (fS hd _)
    obtain⟨h3,h4,h5⟩:=pO hv n hl (dT hd _)
    rw[aah,bg,←h1,←h3]
    refine⟨by rw[List.take_append_drop],by simp[h4],fun x hx=> ?_⟩
    rcases List.mem_cons.1 hx with rfl | hx
    ·exact h2
    ·exact h5 x hx
   ·cases h
theorem Ext.of_grown {w w':World} (h:w.grownBy w' none):Ext w w':=Below.grown (Ext.refl w) h (Nat.le_refl _) (fun k hk=>by cases hk)
theorem ji {ρ:Env} {base nid:Nat} {w w':World} {j:J} {u:SV} {r:RowOb} {v:V} (hx:Ext w w') (hr:RowOk ρ w.heap.size w' u r) (ho:r.own=true) {eff:Eff} (he:eff={val:=v,rd:=eff.rd,rr:=eff.rr,re:=.mk [r]}) (hz:u.z=[]:=by first | rfl | assumption):Does ρ base nid eff j w (j.putL nid [u]) w':=by
 rw[he]
 refine⟨hx,[u],rfl,fun i u' r' h1 h2=> ?_,fun i i' u1 u2 k h1 h2 _ _=> ?_,fun u' hu'=>NewZ.nil (by rw[List.mem_singleton.1 hu']; exact hz),by simp[hz,J.addzs]⟩
 ·cases i with
  | zero=>simp at h1 h2; subst h1 h2; exact⟨hr,ho⟩
  | succ i=>simp at h1
 ·cases i with
  | zero=>
    cases i' with
    | zero=>rfl
    | succ i'=>simp at h2
  | succ i=>simp at h1
theorem mH {ρ:Env} {j:J} {nid:Nat} {u:SV}:(V.one (.sl nid)).den ρ (j.putL nid [u])=some u.v:=by
 simp[V.den,C.den,J.putL]
theorem ot {ρ:Env} {j:J} {nid:Nat} {u:SV}:(V.one (.sl nid)).den ρ (j.putS nid u)=some u.v:=by
 simp[V.den,C.den,J.putS]
theorem jG (hT:∀t i,(t,i)∈cx.ty→TIok P t i) {t n:Nat} {ps:Array (Nat×Operand)} {kw:Kw} (hop:o.op=.buildSlice t n ps) {parts:List (Nat×V)} (hps:evP vw.ev ps.toList=some parts) {i:TI} (hi:af t cx.ty=some i) {et:Nat} (ha:i.sle=some et) {ie:TI} (hie:af et cx.ty=some ie)
  {ks:List CE} {cs:List C} (hfill:jK (fun m=>some (m*ie.size,ie.size)) ((List.replicate n ie.zero).flatten) parts=some cs) {l:E} (hl:rC kw.vk ks n cs=some l) (hq:n*ie.size≤16777216∧0<ie.size∧ks.length=ie.size)
  (h:(k {val:=.one (.sl vw.nid),re:=.mk [⟨ks,et,l,true,.sl⟩]} kw).holds sp G ρ I) (hg:Good sp cx.sm ρ kw):Sound P sp ρ G I base cx vw o k kw:=by
 refine⟨_,kw,h,hg,.refl _,fun j a w hb hev hrd hwr hrr hfb K Q hK=> ?_⟩
 obtain⟨h1,h2⟩:=qG (a:=a) (j:=j) hps (fun x hx=>hev x (by
  simp only[hop,Op.operands]
  simpa using hx))
 have h3:(ps.map fun p=>(p.1,a.eval p.2)).toList=ps.toList.map fun p=>(p.1,a.eval p.2):=Array.toList_map ..
 have hx:execOp a.eval o=(do let v ←Instr.buildSlice t n (ps.map fun p=>(p.1,a.eval p.2)); pure (.value v)):=by simp only[execOp,hop]
 have hu:=(hT _ _ (ab hi)).sle et ha
 have hte:=hT _ _ (ab hie)
 have hsz:=hte.size
 obtain⟨inf,z,hinf,hisz,_,hz,hzl,hzd⟩:=hte.info
 have hzs:z.cells.size=ie.size:=by simpa using hzl
 have zer:denL ρ j ((List.replicate n ie.zero).flatten)=some (madeCells z.cells (n*ie.size)).toList:=by
  rw[←hzs,lI]
  have:∀n,denL ρ j ((List.replicate n ie.zero).flatten)=some ((List.replicate n z.cells.toList).flatten):=by
   intro n
   induction n with
   | zero=>rfl
   | succ n ih=>
     simp only[List.replicate_succ,List.flatten_cons]
     exact cE (hzd ρ j) ih
  exact this n
 obtain⟨cells,h4,h5⟩:=jr (j:=j) parts _ cs _ (madeCells z.cells (n*ie.size)) hfill zer h1 h2
 obtain⟨h6,h7,h8⟩:=pO hg.vk n hl h5
 have hmax:n≤maxLen:=by
  have:n*1≤n*ie.size:=Nat.mul_le_mul_left n hq.2.1
  simp only[maxLen]; omega
 have hcs:cells.size=n*ks.length:=by
  have:=congrArg List.length h6
  rw[aH h8,h7] at this
  simpa using this
 have own:=World.ownsRow_lit (base:=w.heap.size) (e:=et) (size:=ks.length) w cells n (Nat.le_refl _) hmax hcs
 rw[h6] at own
 refine bf (w':=w.alloc (.cells cells et)) (v:=(⟨some ⟨w.heap.size,0,none⟩,n,n,[]⟩:SV).v) ?_ (hK _ (j.putL vw.nid [⟨some ⟨w.heap.size,0,none⟩,n,n,[]⟩]) _ mH (ji (Ext.of_grown (World.grownBy_alloc w _ none)) (RowOk.mk_own rfl h7.symm ⟨h8,by rw[h7]; exact hmax⟩ (by simp only; omega) own) rfl rfl))
 rw[hx]
 have hbig:¬(16777216<n*ie.size):=by omega
 by_cases hn0:n*ie.size=0
 ·have hn:n=0:=by
   rcases Nat.mul_eq_zero.1 hn0 with h | h
   ·exact h
   ·omega
  subst hn
  have h4':Instr.fill (fun m=>some (m*ie.size,ie.size)) #[] (ps.toList.map fun p=>(p.1,a.eval p.2))=some cells:=by
   rw[←h4]; congr 1
   simp[madeCells]
  simp[Instr.buildSlice,Sem.run_bind,run_underlying hu,hsz,h3,Array.range_zero',h4',newRow,SV.v]
 ·simp only[madeCells] at h4
  simp[Instr.buildSlice,Sem.run_bind,run_underlying hu,hsz,h3,hbig,hn0,zeroValue,typeInfo,hinf,hz,h4,newRow,SV.v]
theorem kW (hT:∀t i,(t,i)∈cx.ty→TIok P t i) {t:Nat} {x y:Operand} {kw:Kw} (hop:o.op=.makeSlice t x y) {k1 k2:IntKind} {e e':E} (hx:vw.ev x=some (.one (.int k1 e))) (hy:vw.ev y=some (.one (.int k2 e'))) {i:TI} (hi:af t cx.ty=some i) {et:Nat} (ha:i.sle=some et) {ie:TI} (hie:af et cx.ty=some ie)
  {ks:List CE} {r:E} (hr:rowE kw.vk ks ie.zero=some r) (hq:e.same e'=true∧0<ie.size∧ks.length=ie.size∧ie.bytes≤65536)
  (h:(decK (mkLt e (.lit 0)) (fun b kw=>if b then .panic else decK (mkLt e (.lit bigB)) (fun b kw=>if b then
         k {val:=.one (.sl vw.nid),re:=.mk [⟨ks,et,.lrep e r,true,.sl⟩]} kw else .panic) kw) kw).holds sp G ρ I) (hg:Good sp cx.sm ρ kw):Sound P sp ρ G I base cx vw o k kw:=by
 have hv0:=hg.vk
 obtain⟨kw1,h1,g1,_,l1⟩:=ak _ _ _ h hg
 rw[aA] at h1
 split at h1
 ·exact h1.elim
 rename_i hneg
 obtain⟨kw2,h2,g2,_,l2⟩:=ak _ _ _ h1 g1
 rw[aA] at h2
 split at h2
 ·rename_i hbig
  have hneg':0≤e.I ρ:=by
   have h3:¬e.I ρ<0:=of_decide_eq_false (Bool.eq_false_iff.2 hneg)
   omega
  have hbig':e.I ρ<1073741824:=of_decide_eq_true hbig
  have hes:=E.same_eq hq.1
  rw[←hes] at hy
  refine⟨_,kw2,h2,g2,l2.trans l1,fun j a w hb hev hrd hwr hrr hfb K Q hK=> ?_⟩
  have hdx:=aL (hev x (by simp[hop,Op.operands]) _ hx)
  have hdy:=aL (hev y (by simp[hop,Op.operands]) _ hy)
  have hu:=(hT _ _ (ab hi)).sle et ha
  have hte:=hT _ _ (ab hie)
  obtain⟨inf,z,hinf,hisz,hbytes,hz,hzl,hzd⟩:=hte.info
  obtain⟨h6,h7⟩:=gq hv0 hr (hzd ρ j)
  have hN:((e.I ρ).toNat:Int)=e.I ρ:=Int.toNat_of_nonneg hneg'
  have hlt:(e.I ρ).toNat<1073741824:=by omega
  have hmax:(e.I ρ).toNat≤maxLen:=by simp only[maxLen]; omega
  have hbb:inf.bytes*(e.I ρ).toNat≤281474976710656:=by
   have:inf.bytes*(e.I ρ).toNat≤65536*1073741824:=Nat.mul_le_mul (by omega) (by omega)
   omega
  obtain⟨w',h3,h4,h5⟩:=run_make_full (P:=P) w w.heap.size t et inf z ie.size hu hinf hz hisz k1 k2 (e.I ρ).toNat hbb hmax (Nat.le_refl _)
  have hzs:z.cells.size=ie.size:=by simpa using hzl
  have hflat:(madeCells z.cells ((e.I ρ).toNat*ie.size)).toList=flat ks ((E.lrep e r).R ρ):=by
   rw[←hzs,lI,h6]
   simp[E.R,flat,List.flatMap_replicate]
  rw[hflat,←hq.2.2.1] at h4
  have hlen:((E.lrep e r).R ρ).length=(e.I ρ).toNat:=by simp[E.R]
  refine bf (w':=w') (v:=(⟨some ⟨w.heap.size,0,none⟩,(e.I ρ).toNat,(e.I ρ).toNat,[]⟩:SV).v) ?_ (hK _ (j.putL vw.nid [⟨some ⟨w.heap.size,0,none⟩,(e.I ρ).toNat,(e.I ρ).toNat,[]⟩]) _ mH (ji (Ext.of_grown h5) (RowOk.mk_own rfl hlen.symm ⟨fun x hx=> ?_,by rw[hlen]; exact hmax⟩ (by simp only; omega) h4) rfl rfl))
  ·rw[hN] at h3
   simp[execOp,hop,hdx,hdy,h3,SV.v,Sem.run_bind]
  ·simp only[E.R,List.mem_replicate] at hx
   rw[hx.2]; exact h7
 ·exact h2.elim
end
end Go.Proofs.Ytghiofgomcihcaa
