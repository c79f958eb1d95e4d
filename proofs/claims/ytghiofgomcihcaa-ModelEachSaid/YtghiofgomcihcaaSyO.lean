import Derived.Test.YtghiofgomcihcaaSyN
import Derived.DeepKeys
set_option linter.unusedVariables false
set_option linter.unusedSimpArgs false
namespace Go.Proofs.Ytghiofgomcihcaa
open Go.RowKit
def Tr.sc:Nat→Tr→Bool
 | _,.leaf _ | _,.panic | _,.stuck _ | _,.at _ _=>true
 | n,.br e t f=>e.sc n&&(t.sc n&&f.sc n)
 | n,.call _ ks args v0 t=>args.sc n&&(Nat.beq v0 n&&t.sc (n+ks.length))
 | n,.next _ args=>args.sc n
 | n,.loop _ v0 vks init body=>init.sc n&&(Nat.beq v0 n&&body.sc (n+vks.length))
 | n,.cut _ v0 vks pre body=>Nat.beq v0 n&&(pre.sc n&&body.sc (n+vks.length))
 | n,.any v0 _ t=>Nat.beq v0 n&&t.sc (n+1)
 | n,.both v0 a b=>Nat.beq v0 n&&(a.sc n&&b.sc n)
def Tr.asks (sp:Spec) (G:Env→E→Prop):Env→(Nat→List Dt→Prop)→Tr→Prop
 | ρ,_,.leaf e=>G ρ e
 | _,_,.panic=>False
 | _,_,.stuck _=>False
 | _,_,.at _ _=>False
 | ρ,I,.br e t f=>(e.B ρ=true→t.asks sp G ρ I)∧(e.B ρ=false→f.asks sp G ρ I)
 | ρ,I,.call key ks args v0 t=>sp.pre key (args.D ρ)∧(eqs ρ (sp.F key (args.D ρ)) v0 0 ks→t.asks sp G ρ I)
 | ρ,I,.next lv args=>I lv (args.D ρ)
 | ρ,I,.any v0 e t=>∀ρ',Ag v0 ρ ρ'→inK .i64 (ρ'.i v0)=true→e.B ρ'=true→t.asks sp G ρ' I
 | ρ,I,.both _ a b=>a.asks sp G ρ I∧b.asks sp G ρ I
 | ρ,I,.loop lv v0 vks init body=>∃(inv:List Dt→Prop) (μ:List Dt→Nat),inv (init.D ρ)∧
   ∀ρ',Ag v0 ρ ρ'→okDs vks (ah ρ' v0 vks)→inv (ah ρ' v0 vks)→body.asks sp G ρ' (upd I lv fun ds'=>inv ds'∧μ ds'<μ (ah ρ' v0 vks))
 | ρ,I,.cut lv v0 vks pre body=>∃inv:List Dt→Prop,pre.asks sp G ρ (upd I lv inv)∧
   ∀ρ',Ag v0 ρ ρ'→okDs vks (ah ρ' v0 vks)→inv (ah ρ' v0 vks)→body.asks sp G ρ' I
theorem Tr.asks_mono {sp:Spec} {G:Env→E→Prop}:∀(t:Tr) (ρ:Env) (I I':Nat→List Dt→Prop),(∀n ds,I n ds→I' n ds)→t.asks sp G ρ I→t.asks sp G ρ I':=by
 intro t
 induction t with
 | leaf | panic | stuck | «at» =>intro ρ I I' _ h; exact h
 | br e t f iht ihf=>intro ρ I I' hi h; exact⟨fun hb=>iht ρ I I' hi (h.1 hb),fun hb=>ihf ρ I I' hi (h.2 hb)⟩
 | call key ks args v0 t ih=>intro ρ I I' hi h; exact⟨h.1,fun he=>ih ρ I I' hi (h.2 he)⟩
 | next lv args=>intro ρ I I' hi h; exact hi _ _ h
 | any v0 e t ih=>intro ρ I I' hi h; exact fun ρ' h1 h2 h3=>ih ρ' I I' hi (h ρ' h1 h2 h3)
 | both v0 a b iha ihb=>intro ρ I I' hi h; exact⟨iha ρ I I' hi h.1,ihb ρ I I' hi h.2⟩
 | loop lv v0 vks init body ih=>
   intro ρ I I' hi h
   obtain⟨inv,μ,h1,h2⟩:=h
   refine⟨inv,μ,h1,fun ρ' ha hd hv=>ih ρ' _ _ (fun n ds=> ?_) (h2 ρ' ha hd hv)⟩
   unfold upd
   split
   ·exact id
   ·exact hi n ds
 | cut lv v0 vks pre body ihp ihb=>
   intro ρ I I' hi h
   obtain⟨inv,h1,h2⟩:=h
   refine⟨inv,ihp ρ _ _ (fun n ds=> ?_) h1,fun ρ' ha hd hv=>ihb ρ' I I' hi (h2 ρ' ha hd hv)⟩
   unfold upd
   split
   ·exact id
   ·exact hi n ds
def Env.put (ρ:Env) (v0:Nat) (ds:List Dt):Env:=⟨fun i=>if v0≤i then dI ds (i-v0) else ρ.i i,fun i=>if v0≤i then dB ds (i-v0) else ρ.b i,fun i=>if v0≤i then dL ds (i-v0) else ρ.l i⟩
theorem fW (ρ:Env) (v0:Nat) (ds:List Dt):Ag v0 ρ (ρ.put v0 ds):=fun i hi=>by
 have:¬v0≤i:=by omega
 simp[Env.put,this]
theorem zW {ρ:Env} {ds:List Dt} {v0:Nat}:∀(ks:List CK) (n:Nat),(∀m,n≤m→m<n+ks.length→ρ.i (v0+m)=dI ds m∧ρ.b (v0+m)=dB ds m∧ρ.l (v0+m)=dL ds m)→eqs ρ ds v0 n ks
 | [],_,_=>trivial
 | k::ks,n,h=>by
   have h0:=h n (Nat.le_refl _) (by simp)
   have h1:=zW ks (n+1) (fun m h1 h2=>h m (by omega) (by simp at h2 ⊢; omega))
   cases k
   case int=>exact⟨h0.1,h1⟩
   case bool=>exact⟨h0.2.1,h1⟩
   case sl=>exact⟨h0.2.2,h1⟩
   all_goals exact h1
theorem qj {ρ:Env} {v0:Nat} {ds:List Dt}:∀(vks:List VK) (n:Nat),okDs vks (ds.drop n)→(∀m,n≤m→m<n+vks.length→ρ.i (v0+m)=dI ds m∧ρ.b (v0+m)=dB ds m∧ρ.l (v0+m)=dL ds m)→ah ρ (v0+n) vks=ds.drop n
 | [],n,h,_=>by
   cases hd:ds.drop n with
   | nil=>rfl
   | cons d r=>rw[hd] at h; exact h.elim
 | k::vks,n,h,hv=>by
   cases hd:ds.drop n with
   | nil=>rw[hd] at h; cases k<;>exact h.elim
   | cons d r=>
     rw[hd] at h
     obtain⟨d1,d2⟩:=bX hd
     have ih:=qj vks (n+1) (by rw[d2]; exact h.2) (fun m h1 h2=>hv m (by omega) (by simp at h2 ⊢; omega))
     rw[d2] at ih
     obtain⟨h1,h2,h3⟩:=hv n (Nat.le_refl _) (by simp)
     simp only[ah]
     rw[show v0+n+1=v0+(n+1) by omega,ih]
     congr 1
     have ok:=h.1
     cases k with
     | int k=>
       cases d with
       | z x=>simp only[varD]; rw[h1,xl d1]
       | l L=>exact ok.elim
     | bool=>
       cases d with
       | z x=>
         simp only[varD]; rw[h2]
         simp only[dB,xl d1]
         rcases ok with rfl | rfl<;>rfl
       | l L=>exact ok.elim
     | list ks=>
       cases d with
       | z x=>exact ok.elim
       | l L=>simp only[varD]; rw[h3,zg d1]
theorem fV {ρ:Env} {v0:Nat} {ds:List Dt} {vks:List VK} (h:okDs vks ds) {ρ':Env} (ha:Ag (v0+vks.length) (ρ.put v0 ds) ρ'):ah ρ' v0 vks=ds:=by
 refine(qj (v0:=v0) (ds:=ds) vks 0 h (fun m _ h2=> ?_))
 have:=ha (v0+m) (by omega)
 simp only[Env.put,if_pos (Nat.le_add_right v0 m),Nat.add_sub_cancel_left] at this
 exact⟨this.1.symm,this.2.1.symm,this.2.2.symm⟩
theorem tv {sp:Spec} {G:Env→E→Prop}:∀(t:Tr) (n:Nat) (ρ:Env) (I:Nat→List Dt→Prop),t.sc n=true→(∀ρ',Ag n ρ ρ'→t.asks sp G ρ' I)→∃ρ',Ag n ρ ρ'∧t.holds sp G ρ' I:=by
 intro t
 induction t with
 | leaf v=>intro n ρ I _ h; exact⟨ρ,Ag.refl n ρ,h ρ (Ag.refl n ρ)⟩
 | panic=>intro n ρ I _ h; exact(h ρ (Ag.refl n ρ)).elim
 | stuck m=>intro n ρ I _ h; exact(h ρ (Ag.refl n ρ)).elim
 | «at» m s=>intro n ρ I _ h; exact(h ρ (Ag.refl n ρ)).elim
 | next lv args=>intro n ρ I _ h; exact⟨ρ,Ag.refl n ρ,h ρ (Ag.refl n ρ)⟩
 | any v0 e t ih=>
   intro n ρ I hs h
   simp only[Tr.sc,Bool.and_eq_true] at hs
   have hv':=Nat.eq_of_beq_eq_true hs.1
   subst hv'
   refine⟨ρ,Ag.refl _ _,fun z hz=> ?_⟩
   have hzi:∀ρ',Ag (v0+1) (ρ.put v0 [.z z]) ρ'→ρ'.i v0=z:=fun ρ' hag=>by
    rw[←(hag v0 (by omega)).1]
    simp[Env.put,dI]
   cases hb:e.B (ρ.put v0 [.z z]) with
   | false=>exact⟨_,fW ρ v0 _,hzi _ (Ag.refl _ _),fun hf=>by rw[hb] at hf; cases hf⟩
   | true=>
     by_cases hne:∃ρ',Ag (v0+1) (ρ.put v0 [.z z]) ρ'∧e.B ρ'=false
     ·obtain⟨ρ',g1,g2⟩:=hne
      exact⟨ρ',(fW ρ v0 _).trans (g1.mono (by omega)),hzi ρ' g1,fun hf=>by rw[g2] at hf; cases hf⟩
     ·have hall:∀ρ',Ag (v0+1) (ρ.put v0 [.z z]) ρ'→e.B ρ'=true:=fun ρ' g1=>by
       cases hq:e.B ρ' with
       | true=>rfl
       | false=>exact absurd ⟨ρ',g1,hq⟩ hne
      obtain⟨ρ',g1,g2⟩:=ih (v0+1) (ρ.put v0 [.z z]) I hs.2 (fun ρ' hag=>h ρ (Ag.refl _ _) ρ' ((fW ρ v0 _).trans (hag.mono (by omega))) (by rw[hzi ρ' hag]; exact hz) (hall ρ' hag))
      exact⟨ρ',(fW ρ v0 _).trans (g1.mono (by omega)),hzi ρ' g1,fun _=>g2⟩
 | br e t f iht ihf=>
   intro n ρ I hs h
   simp only[Tr.sc,Bool.and_eq_true] at hs
   cases hb:e.B ρ with
   | true=>
     obtain⟨ρ',h1,h2⟩:=iht n ρ I hs.2.1 (fun ρ' ha=>(h ρ' ha).1 (by rw[←(E.sc_eq ha e hs.1).2.1]; exact hb))
     refine⟨ρ',h1,fun _=>h2,fun hf=> ?_⟩
     rw[←(E.sc_eq h1 e hs.1).2.1,hb] at hf
     cases hf
   | false=>
     obtain⟨ρ',h1,h2⟩:=ihf n ρ I hs.2.2 (fun ρ' ha=>(h ρ' ha).2 (by rw[←(E.sc_eq ha e hs.1).2.1]; exact hb))
     refine⟨ρ',h1,fun hf=> ?_,fun _=>h2⟩
     rw[←(E.sc_eq h1 e hs.1).2.1,hb] at hf
     cases hf
 | call key ks args v0 t ih=>
   intro n ρ I hs h
   simp only[Tr.sc,Bool.and_eq_true] at hs
   obtain⟨ha,hv,ht⟩:=hs
   have hv':=Nat.eq_of_beq_eq_true hv
   subst hv'
   have ag1:∀ρ',Ag (v0+ks.length) (ρ.put v0 (sp.F key (args.D ρ))) ρ'→Ag v0 ρ ρ':=fun ρ' hag=>(fW ρ v0 _).trans (hag.mono (by omega))
   have he:∀ρ',Ag (v0+ks.length) (ρ.put v0 (sp.F key (args.D ρ))) ρ'→eqs ρ' (sp.F key (args.D ρ')) v0 0 ks:=fun ρ' hag=>by
    rw[←(E.sc_eq (ag1 ρ' hag) args ha).2.2.2.2]
    refine zW ks 0 (fun m h1 h2=> ?_)
    have:=hag (v0+m) (by omega)
    simp only[Env.put,if_pos (Nat.le_add_right v0 m),Nat.add_sub_cancel_left] at this
    exact⟨this.1.symm,this.2.1.symm,this.2.2.symm⟩
   obtain⟨ρ',h1,h2⟩:=ih (v0+ks.length) _ I ht (fun ρ' hag=>(h ρ' (ag1 ρ' hag)).2 (he ρ' hag))
   exact⟨ρ',ag1 ρ' h1,(h ρ' (ag1 ρ' h1)).1,he ρ' h1,h2⟩
 | both v0 a b iha ihb=>
   intro n ρ I hs h
   simp only[Tr.sc,Bool.and_eq_true] at hs
   obtain⟨hv,ha,hb⟩:=hs
   have hv':=Nat.eq_of_beq_eq_true hv
   subst hv'
   obtain⟨ρ1,g1,g2⟩:=iha v0 ρ I ha (fun ρ' hag=>(h ρ' hag).1)
   obtain⟨ρ2,g3,g4⟩:=ihb v0 ρ I hb (fun ρ' hag=>(h ρ' hag).2)
   exact⟨ρ,Ag.refl _ _,⟨ρ1,g1,g2⟩,ρ2,g3,g4⟩
 | loop lv v0 vks init body ih=>
   intro n ρ I hs h
   simp only[Tr.sc,Bool.and_eq_true] at hs
   obtain⟨hi,hv,hb⟩:=hs
   have hv':=Nat.eq_of_beq_eq_true hv
   subst hv'
   obtain⟨inv,μ,h1,h2⟩:=h ρ (Ag.refl _ _)
   refine⟨ρ,Ag.refl _ _,inv,μ,h1,fun ds hd hin=> ?_⟩
   obtain⟨ρ',g1,g2⟩:=ih (v0+vks.length) (ρ.put v0 ds) (upd I lv fun ds'=>inv ds'∧μ ds'<μ ds) hb (fun ρ' hag=>by
    have hvs:=fV hd hag
    have:=h2 ρ' ((fW ρ v0 ds).trans (hag.mono (by omega))) (by rw[hvs]; exact hd) (by rw[hvs]; exact hin)
    rw[hvs] at this
    exact this)
   exact⟨ρ',(fW ρ v0 ds).trans (g1.mono (by omega)),fV hd g1,g2⟩
 | cut lv v0 vks pre body ihp ihb=>
   intro n ρ I hs h
   simp only[Tr.sc,Bool.and_eq_true] at hs
   obtain⟨hv,hp,hb⟩:=hs
   have hv':=Nat.eq_of_beq_eq_true hv
   subst hv'
   let J:List Dt→Prop:=fun ds=>∃(ρ1:Env) (inv:List Dt→Prop),Ag v0 ρ ρ1∧inv ds∧∀ρ',Ag v0 ρ1 ρ'→okDs vks (ah ρ' v0 vks)→inv (ah ρ' v0 vks)→body.asks sp G ρ' I
   obtain⟨ρ2,k1,k2⟩:=ihp v0 ρ (upd I lv J) hp (fun ρ' ha=>by
    obtain⟨inv,h1,h2⟩:=h ρ' ha
    refine pre.asks_mono ρ' _ _ (fun m ds=> ?_) h1
    unfold upd
    split
    ·exact fun hi=>⟨ρ',inv,ha,hi,h2⟩
    ·exact id)
   refine⟨ρ2,k1,J,k2,fun ds hd hin=> ?_⟩
   obtain⟨ρ1,inv,a1,a2,a3⟩:=hin
   obtain⟨ρ',g1,g2⟩:=ihb (v0+vks.length) (ρ1.put v0 ds) I hb (fun ρ' hag=>by
    have hvs:=fV hd hag
    exact a3 ρ' ((fW ρ1 v0 ds).trans (hag.mono (by omega))) (by rw[hvs]; exact hd) (by rw[hvs]; exact a2))
   exact⟨ρ',(k1.symm.trans a1).trans ((fW ρ1 v0 ds).trans (g1.mono (by omega))),fV hd g1,g2⟩
def abS:C→Value→Bool
 | .int k (.lit z),.int k' z'=>aR k k'&&dG z z'
 | .bool (.tt b),.bool b'=>b==b'
 | .nilp,.pointer none=>true
 | .nsl,.slice none 0 0=>true
 | .nilf,.nilFunc=>true
 | .nmp,.map none=>true
 | .str .lnil,.string s=>s.data.toList.isEmpty
 | _,_=>false
def oR:List C→List Value→Bool
 | [],[]=>true
 | c::cs,v::vs=>abS c v&&oR cs vs
 | _,_=>false
theorem zh {c:C} {v:Value} (h:abS c v=true) (ρ:Env) (j:J):c.den ρ j=some v:=by
 unfold abS at h
 split at h
 ·simp only[Bool.and_eq_true] at h
  rw[ao h.1,bH h.2]; rfl
 ·rw[beq_iff_eq] at h; rw[h]; rfl
 ·rfl
 ·rfl
 ·rfl
 ·rfl
 ·rename_i s
  obtain⟨⟨l⟩⟩:=s
  have:l=[]:=by simpa using h
  subst this
  rfl
 ·cases h
theorem kq (ρ:Env) (j:J):∀{cs:List C} {vs:List Value},oR cs vs=true→denL ρ j cs=some vs
 | [],[],_=>rfl
 | c::cs,v::vs,h=>by
   simp only[oR,Bool.and_eq_true] at h
   simp[denL,zh h.1,kq ρ j h.2]
def eH (P:Program):List Field→List (Nat×Nat)→Bool
 | [],[]=>true
 | f::fs,(off,ft)::l=>Nat.beq f.offset off&&(Nat.beq f.type ft&&((match P.info? ft with | some i=>!Nat.beq i.size 0 | none=>false)&&eH P fs l))
 | _,_=>false
def ckTI (P:Program) (t:Nat) (i:TI):Bool:=
 match P.info? t,P.underlying t with
 | some inf,some d=>
   (((match i.mapt with | none=>true | some (k,e)=>(match d with | .map k' e'=>Nat.beq k k'&&Nat.beq e e' | _=>false))&&(match i.kd with | 0=>true | 1=>(match d with | .pointer _=>true | _=>false) | 2=>(match d with | .string=>true | _=>false) | _=>false))&&(match inf.zero with | some (.agg _)=>i.agg | some _=>!i.agg | none=>false))&&(Nat.beq inf.size i.size&&((match inf.zero with | some z=>oR i.zero z.cells.toList&&Nat.beq z.cells.toList.length i.size | none=>false)&&(Nat.beq inf.bytes i.bytes&&
   (match d with
    | .struct fs=>i.agg&&(i.arr.isNone&&(i.ik.isNone&&(!i.isb&&(i.sle.isNone&&(!i.fnt&&eH P fs.toList i.fields)))))
    | .array n e=>i.agg&&((match i.arr with | some (m,e')=>Nat.beq n m&&Nat.beq e e' | none=>false)&&(i.ik.isNone&&(!i.isb&&(i.sle.isNone&&(!i.fnt&&i.fields.isEmpty)))))
    | .int k=>!i.agg&&(i.arr.isNone&&((match i.ik with | some k'=>aR k k' | none=>false)&&(!i.isb&&(i.sle.isNone&&(!i.fnt&&i.fields.isEmpty)))))
    | .bool=>!i.agg&&(i.arr.isNone&&(i.ik.isNone&&(i.sle.isNone&&(!i.fnt&&i.fields.isEmpty))))
    | .slice e=>!i.agg&&(i.arr.isNone&&(i.ik.isNone&&(!i.isb&&((match i.sle with | some e'=>Nat.beq e e' | none=>false)&&(!i.fnt&&i.fields.isEmpty)))))
    | .func _ _ _=>!i.agg&&(i.arr.isNone&&(i.ik.isNone&&(!i.isb&&(i.sle.isNone&&i.fields.isEmpty))))
    | _=>!i.agg&&(i.arr.isNone&&(i.ik.isNone&&(!i.isb&&(i.sle.isNone&&(!i.fnt&&i.fields.isEmpty)))))))))
 | _,_=>false
theorem fz {P:Program}:∀{fs:List Field} {l:List (Nat×Nat)},eH P fs l=true→∀(f off ft:Nat),l[f]? =some (off,ft)→∃x,fs[f]? =some x∧x.offset=off∧x.type=ft∧∃i,P.info? ft=some i∧i.size≠0
 | [],[],_,f,off,ft,h=>by simp at h
 | x::fs,(off',ft')::l,hc,f,off,ft,h=>by
   simp only[eH,Bool.and_eq_true] at hc
   cases f with
   | zero=>
     simp only[List.getElem?_cons_zero,Option.some.injEq,Prod.mk.injEq] at h
     obtain⟨rfl,rfl⟩:=h
     refine⟨x,rfl,Nat.eq_of_beq_eq_true hc.1,Nat.eq_of_beq_eq_true hc.2.1,?_⟩
     have h3:=hc.2.2.1
     split at h3
     ·rename_i i hi
      refine⟨i,hi,fun e=> ?_⟩
      rw[e] at h3
      simp at h3
     ·cases h3
   | succ f=>exact fz hc.2.2.2 f off ft (by simpa using h)
theorem ku {P:Program}:∀{fs:List Field} {l:List (Nat×Nat)},eH P fs l=true→fs.map (fun f=>(f.offset,f.type))=l
 | [],[],_=>rfl
 | x::fs,(off',ft')::l,hc=>by
   simp only[eH,Bool.and_eq_true] at hc
   rw[List.map_cons,ku hc.2.2.2,Nat.eq_of_beq_eq_true hc.1,Nat.eq_of_beq_eq_true hc.2.1]
theorem ac9 {P:Program} {t:Nat} {a b c} (hd:P.underlying t=some (.func a b c)) (f:Nat) (fa fb) (w:World):(Op.equal t (.func (.func f) fa fb) .nilFunc).run P w=.ok false w∧(Op.equal t .nilFunc .nilFunc).run P w=.ok true w:=by
 unfold Op.equal
 have key:∀d x y,(Op.equalIn (d+1) t x y).run P w=_:=fun d x y=>by rw[Op.equalIn,Sem.run_bind,run_underlying hd]
 exact⟨(key 9999 _ _).trans rfl,(key 9999 _ _).trans rfl⟩
theorem cQ {P:Program} {t:Nat} {i:TI} (h:ckTI P t i=true) (heq:i.eqok=true→∀vs us,aD vs i.zero→aD us i.zero→∀w,(Op.equal t (.agg vs.toArray) (.agg us.toArray)).run P w=.ok (eqVs vs us) w) (hgrd:i.eqok=true→P.eqGuardType P.depth t=false) (hkey:i.keyok=true→∀vs,aD vs i.zero→∀b w,(Instr.checkKey b 10000 t (.agg vs.toArray)).run P w=.ok () w):TIok P t i:=by
 unfold ckTI at h
 split at h
 ·rename_i inf d hinf hd
  simp only[Bool.and_eq_true] at h
  obtain⟨⟨⟨hmt,hkd⟩,hzs⟩,h1,h2,hby,h3⟩:=h
  have hsz:=Nat.eq_of_beq_eq_true h1
  have hti:∀w,(typeInfo t).run P w=.ok inf w:=fun w=>by simp[typeInfo,program,Sem.run_bind,Sem.run,hinf]
  obtain⟨z,hz,hz1,hz2⟩:∃z,inf.zero=some z∧oR i.zero z.cells.toList=true∧z.cells.toList.length=i.size:=by
   split at h2
   ·rename_i z hz
    rw[Bool.and_eq_true] at h2
    exact⟨z,hz,h2.1,Nat.eq_of_beq_eq_true h2.2⟩
   ·cases h2
  clear h1 h2
  refine⟨?_,fun w=>by simp[sizeOf,Sem.run_bind,hti,hsz],⟨z,fun w=>by simp[zeroValue,Sem.run_bind,hti,hz],fun ρ j=>kq ρ j hz1⟩,?_,?_,?_,?_,?_,⟨d,hd⟩,heq,hgrd,?_,?_,?_,fun k e hk=> ?_,fun hk=> ?_,fun hk=> ?_,hkey,fun z' hz'=> ?_,⟨inf,z,hinf,hsz,Nat.eq_of_beq_eq_true hby,hz,hz2,fun ρ j=>kq ρ j hz1⟩⟩
  ·intro w
   unfold isAgg
   rw[Sem.run_bind,run_underlying hd]
   cases d<;>simp_all
  ·intro f off ft hf w a
   cases d<;>simp_all
   rename_i fs
   obtain⟨x,hx,rfl,rfl,inf',hi,hne⟩:=fz (P:=P) h3.2.2.2.2.2.2 f off ft hf
   have hx':fs[f]? =some x:=by rw[←Array.getElem?_toList]; exact hx
   have hs:∀w,(sizeOf x.type).run P w=.ok inf'.size w:=fun w=>by simp[sizeOf,typeInfo,program,Sem.run_bind,Sem.run,hi]
   simp[Instr.fieldAt,run_underlying hd,Sem.run_bind,hx',Instr.sureAddr,fieldPlace,hs,hne]
  ·intro f off ft hf w cs
   cases d<;>simp_all
   rename_i fs
   obtain⟨x,hx,rfl,rfl,inf',hi,hne⟩:=fz (P:=P) h3.2.2.2.2.2.2 f off ft hf
   have hx':fs[f]? =some x:=by rw[←Array.getElem?_toList]; exact hx
   simp[Instr.field,run_underlying hd,Sem.run_bind,hx',asAgg]
  ·intro n e ha
   cases d<;>simp_all
  ·intro h1 h2
   cases d<;>simp_all
   exact ku (P:=P) h3.2.2.2.2
  ·intro k hk
   cases d<;>simp_all
   rw[ao h3.2.2.1]
  ·intro hb
   cases d<;>simp_all
  ·intro e he
   cases d<;>simp_all
  ·intro hb f fa fb w
   cases d<;>simp_all
   exact ac9 hd f fa fb w
  ·rw[hk] at hmt
   dsimp only at hmt
   split at hmt
   ·simp only[Bool.and_eq_true] at hmt
    rw[hd,Nat.eq_of_beq_eq_true hmt.1,Nat.eq_of_beq_eq_true hmt.2]
   ·cases hmt
  ·simp only[hk] at hkd
   cases d<;>first | exact⟨_,hd⟩ | cases hkd
  ·simp only[hk] at hkd
   cases d<;>first | exact hd | cases hkd
  ·have e0:=hz' ⟨#[],fun _ _=>0,0,default,#[]⟩
   have e1:z'=z:=by
    simp[zeroValue,Sem.run_bind,hti,hz] at e0
    exact e0.symm
   subst e1
   rw[hz] at hzs
   cases z'<;>simp_all [Value.cells]
 ·cases h
end Go.Proofs.Ytghiofgomcihcaa
