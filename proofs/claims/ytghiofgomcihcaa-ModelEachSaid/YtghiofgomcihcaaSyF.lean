import Derived.Test.YtghiofgomcihcaaSyE
set_option linter.unusedVariables false
set_option linter.unusedSimpArgs false
namespace Go.Proofs.Ytghiofgomcihcaa
open Go.RowKit
section
variable {P:Program} {sp:Spec} {ρ:Env} {G:Env→E→Prop} {I:Nat→List Dt→Prop} {base:Nat} {cx:Cx} {vw:Vw} {o:Oper} {k:Eff→Kw→Tr}
theorem uH {op:BinOp} {xt yt:Nat} {x y:Operand} {kw:Kw} (hop:o.op=.binOp op xt x y yt) {k1 k2:IntKind} {a b:E} (hx:vw.ev x=some (.one (.int k1 a))) (hy:vw.ev y=some (.one (.int k2 b))) {v:V} {u:Value} (hv:∀j,v.den ρ j=some u)
  (hr:∀w,(binOp op xt (.int k1 (a.I ρ)) (.int k2 (b.I ρ))).run P w=.ok u w) (h:(k {val:=v} kw).holds sp G ρ I) (hg:Good sp cx.sm ρ kw):Sound P sp ρ G I base cx vw o k kw:=by
 refine⟨_,kw,h,hg,.refl _,OpOk.pure fun j ac w _ hev _ _ _=>⟨u,hv j,?_⟩⟩
 have h1:=aQ (hev x (by simp[hop,Op.operands]) _ hx)
 have h2:=aQ (hev y (by simp[hop,Op.operands]) _ hy)
 have h3:=hr w
 simp[execOp,hop,h1,h2,eqGuard_at_int,h3,Sem.run_bind]
theorem nz {op:BinOp} {xt yt:Nat} {x y:Operand} {kw:Kw} (hop:o.op=.binOp op xt x y yt) {a b:E} (hx:vw.ev x=some (.one (.bool a))) (hy:vw.ev y=some (.one (.bool b))) {v:V} {u:Value} (hv:∀j,v.den ρ j=some u)
  (hr:∀w,(binOp op xt (.bool (a.B ρ)) (.bool (b.B ρ))).run P w=.ok u w) (h:(k {val:=v} kw).holds sp G ρ I) (hg:Good sp cx.sm ρ kw):Sound P sp ρ G I base cx vw o k kw:=by
 refine⟨_,kw,h,hg,.refl _,OpOk.pure fun j ac w _ hev _ _ _=>⟨u,hv j,?_⟩⟩
 have h1:=ez (hev x (by simp[hop,Op.operands]) _ hx)
 have h2:=ez (hev y (by simp[hop,Op.operands]) _ hy)
 have h3:=hr w
 simp[execOp,hop,h1,h2,eqGuard_at_bool,h3,Sem.run_bind]
theorem qs (hT:∀t i,(t,i)∈cx.ty→TIok P t i) {op:BinOp} (hne:op=.eql∨op=.neq) {xt yt:Nat} {x y:Operand} {kw:Kw} (hop:o.op=.binOp op xt x y yt) {cs ds:List C} (hx:vw.ev x=some (.agg cs)) (hy:vw.ev y=some (.agg ds)) {i:TI} (hi:af xt cx.ty=some i) (hq:i.eqok=true) (hk1:bv cs i.zero=true∧cs.all (C.rng kw.vk)=true) (hk2:bv ds i.zero=true∧ds.all (C.rng kw.vk)=true) {e:E} (he:mI (abX cx) cs ds=some e)
  (h:(k {val:=.one (.bool (if op=.eql then e else bL e))} kw).holds sp G ρ I) (hg:Good sp cx.sm ρ kw):Sound P sp ρ G I base cx vw o k kw:=by
 have ht:=hT _ _ (ab hi)
 refine⟨_,kw,h,hg,.refl _,OpOk.pure fun j ac w _ hev _ _ _=>⟨.bool (if op=.eql then e.B ρ else !e.B ρ),?_,?_⟩⟩
 ·rcases hne with rfl | rfl<;>simp[V.den,C.den,bl]
 ·obtain⟨vs,us,h1,h2,h3,h4⟩:=tu (ρ:=ρ) (j:=j) he
  have hdx:=hev x (by simp[hop,Op.operands]) _ hx
  have hdy:=hev y (by simp[hop,Op.operands]) _ hy
  simp only[V.den,h1,h2,Option.map_some,Option.some.injEq] at hdx hdy
  have h5:=ht.eq hq vs us (gg hg.vk hk1.1 hk1.2 h1) (gg hg.vk hk2.1 hk2.2 h2) w
  have h6:(eqGuard op xt x y (.agg vs.toArray) (.agg us.toArray)).run P w=.ok () w:=by
   rcases hne with rfl | rfl<;>simp[eqGuard,program,Sem.run_bind,Sem.run,ht.grd hq]
  rcases hne with rfl | rfl<;>simp[execOp,hop,←hdx,←hdy,h6,binOp,h5,h4,Sem.run_bind]
theorem lN {op:BinOp} (hne:op=.eql∨op=.neq) {xt yt:Nat} {x y:Operand} {kw:Kw} (hop:o.op=.binOp op xt x y yt) {c d:C} (hx:vw.ev x=some (.one c)) (hy:vw.ev y=some (.one d)) {X Y:Value} (hX:∀j,c.den ρ j=some X) (hY:∀j,d.den ρ j=some Y)
  (hXY:(∃f,X=.func f #[] #[])∨X=.nilFunc) (hYn:Y=.nilFunc) {r:Bool} (he:∀w,(Op.equal xt X Y).run P w=.ok r w) (h:(k {val:=.one (.bool (.tt (if op=.eql then r else !r)))} kw).holds sp G ρ I) (hg:Good sp cx.sm ρ kw):Sound P sp ρ G I base cx vw o k kw:=by
 refine⟨_,kw,h,hg,.refl _,OpOk.pure fun j ac w _ hev _ _ _=>⟨.bool (if op=.eql then r else !r),by simp[V.den,C.den,E.B],?_⟩⟩
 have hdx:(V.one c).den ρ j=some (ac.eval x):=hev x (by simp[hop,Op.operands]) _ hx
 have hdy:(V.one d).den ρ j=some (ac.eval y):=hev y (by simp[hop,Op.operands]) _ hy
 have h1:ac.eval x=X:=(Option.some.inj ((hX j).symm.trans hdx)).symm
 have h2:ac.eval y=Y:=(Option.some.inj ((hY j).symm.trans hdy)).symm
 have h3:=he w
 subst hYn
 rcases hXY with⟨f,rfl⟩ | rfl
 ·rcases hne with rfl | rfl<;>simp[execOp,hop,h1,h2,eqGuard,binOp,h3,Sem.run_bind]
 ·rcases hne with rfl | rfl<;>simp[execOp,hop,h1,h2,eqGuard,binOp,h3,Sem.run_bind]
theorem uN {op:BinOp} (hne:op=.eql∨op=.neq) {xt yt:Nat} {x y:Operand} {kw:Kw} (hop:o.op=.binOp op xt x y yt) {g:Nat} {fs ps:List (Option (Bool×Nat×Nat))} (hx:vw.ev x=some (.one (.clo g fs ps))) (hy:vw.ev y=some (.one .nilf))
  (he:∀f a b w,(Op.equal xt (.func (.func f) a b) .nilFunc).run P w=.ok false w) (h:(k {val:=.one (.bool (.tt (if op=.eql then false else true)))} kw).holds sp G ρ I) (hg:Good sp cx.sm ρ kw):Sound P sp ρ G I base cx vw o k kw:=by
 refine⟨_,kw,h,hg,.refl _,OpOk.pure fun j ac w _ hev _ _ _=>⟨.bool (if op=.eql then false else true),by simp[V.den,C.den,E.B],?_⟩⟩
 have hdx:(V.one (.clo g fs ps)).den ρ j=some (ac.eval x):=hev x (by simp[hop,Op.operands]) _ hx
 have hdy:(V.one .nilf).den ρ j=some (ac.eval y):=hev y (by simp[hop,Op.operands]) _ hy
 have h2:ac.eval y=.nilFunc:=(Option.some.inj hdy).symm
 have h1:∃f a b,ac.eval x=.func (.func f) a b:=by
  simp only[V.den,C.den,cloV] at hdx
  split at hdx
  ·exact⟨_,_,_,(Option.some.inj hdx).symm⟩
  ·cases hdx
 obtain⟨f,a,b,h1⟩:=h1
 have h3:=he f a b w
 rcases hne with rfl | rfl<;>simp[execOp,hop,h1,h2,eqGuard,binOp,h3,Sem.run_bind]
theorem tg {kd:IntKind} {z:Int} (h:inK kd z=true) (hs:kd.signed=false):0≤z:=by
 rw[aO] at h
 cases kd<;>simp only[IntKind.min,IntKind.signed] at * <;>simp at * <;>omega
theorem jZ {x y:Int}:(if y<x then y else x)=min x y∧(if y>x then y else x)=max x y:=by
 constructor<;>split<;>omega
theorem bt {op:BinOp} {xt yt:Nat} {x y:Operand} {kw:Kw} (hop:o.op=.binOp op xt x y yt) {k1 k2:IntKind} {a b:E} (hx:vw.ev x=some (.one (.int k1 a))) (hy:vw.ev y=some (.one (.int k2 b)))
  (hr:∀w,(binOp op xt (.int k1 (a.I ρ)) (.int k2 (b.I ρ))).run P w=.ok (.int k1 (opI op k1 (a.I ρ) (b.I ρ))) w) (h:(k {val:=.one (.int k1 (eg op k1 a b))} kw).holds sp G ρ I) (hg:Good sp cx.sm ρ kw):Sound P sp ρ G I base cx vw o k kw:=
 uH hop hx hy (fun j=>by simp[V.den,C.den,mt]) hr h hg
theorem gE {op:BinOp} {xt yt:Nat} {x y:Operand} {kw:Kw} (hop:o.op=.binOp op xt x y yt) {k1 k2:IntKind} {a b e:E} (hx:vw.ev x=some (.one (.int k1 a))) (hy:vw.ev y=some (.one (.int k2 b)))
  (hr:∀w,(binOp op xt (.int k1 (a.I ρ)) (.int k2 (b.I ρ))).run P w=.ok (.bool (e.B ρ)) w) (h:(k {val:=.one (.bool e)} kw).holds sp G ρ I) (hg:Good sp cx.sm ρ kw):Sound P sp ρ G I base cx vw o k kw:=
 uH hop hx hy (fun j=>by simp[V.den,C.den]) hr h hg
theorem jY (a b:Int):decide (a≤b) = !decide (b<a):=by
 by_cases h:a≤b<;>simp[h]<;>omega
theorem nm {op:BinOp} {xt yt:Nat} {x y:Operand} {kw:Kw} (hop:o.op=.binOp op xt x y yt) (ho:op=.shl∨op=.shr) {k1 k2:IntKind} {a b:E} (hx:vw.ev x=some (.one (.int k1 a))) (hy:vw.ev y=some (.one (.int k2 b)))
  (h:(if k2.signed then decK (mkLt b (.lit 0)) (fun neg kw=>if neg then .panic else k {val:=.one (.int k1 (eg op k1 a b))} kw) kw
   else if b.rng kw.vk k2 then k {val:=.one (.int k1 (eg op k1 a b))} kw else .stuck 11:Tr).holds sp G ρ I) (hg:Good sp cx.sm ρ kw):Sound P sp ρ G I base cx vw o k kw:=by
 have hr:¬b.I ρ<0→∀w,(binOp op xt (.int k1 (a.I ρ)) (.int k2 (b.I ρ))).run P w=.ok (.int k1 (opI op k1 (a.I ρ) (b.I ρ))) w:=by
  intro hb w
  rcases ho with rfl | rfl<;>simp[binOp,Op.shift,hb,opI]
 split at h
 ·obtain⟨kw',h1,g1,_,l1⟩:=ak _ _ _ h hg
  rw[aG] at h1
  split at h1
  ·exact h1.elim
  ·rename_i hb
   exact(bt hop hx hy (hr (fun hlt=>hb (decide_eq_true hlt))) h1 g1).lv l1
 ·rename_i hsg
  split at h
  ·rename_i hrg
   have:=tg (E.rng_ok hg.vk b hrg) (by simpa using hsg)
   exact bt hop hx hy (hr (by omega)) h hg
  ·exact h.elim
theorem uM {op:BinOp} {xt yt:Nat} {x y:Operand} {kw:Kw} (hop:o.op=.binOp op xt x y yt) (ho:op=.quo∨op=.rem) {k1:IntKind} {a b:E} (hx:vw.ev x=some (.one (.int k1 a))) (hy:vw.ev y=some (.one (.int k1 b)))
  (h:(decK (mkEq b (.lit 0)) (fun z kw=>if z then .panic else k {val:=.one (.int k1 (eg op k1 a b))} kw) kw:Tr).holds sp G ρ I) (hg:Good sp cx.sm ρ kw):Sound P sp ρ G I base cx vw o k kw:=by
 obtain⟨kw',h1,g1,_,l1⟩:=ak _ _ _ h hg
 rw[kV] at h1
 split at h1
 ·exact h1.elim
 ·rename_i hb
  have hb':¬b.I ρ=0:=by simpa[E.I] using hb
  refine(bt hop hx hy (fun w=> ?_) h1 g1).lv l1
  rcases ho with rfl | rfl<;>simp[opI,binOp_quo,binOp_rem,Op.intDiv,hb']
theorem aap (hT:∀t i,(t,i)∈cx.ty→TIok P t i) {op:BinOp} {xt yt:Nat} {x y:Operand} {kw:Kw} (hop:o.op=.binOp op xt x y yt) {v u:V} (hx:vw.ev x=some v) (hy:vw.ev y=some u) (h:(binK cx op xt v u kw k).holds sp G ρ I) (hg:Good sp cx.sm ρ kw):Sound P sp ρ G I base cx vw o k kw:=by
 unfold binK at h
 split at h
 ·split at h
  ·exact nm hop (.inl rfl) hx hy h hg
  ·exact nm hop (.inr rfl) hx hy h hg
  ·split at h
   ·rename_i hk
    have hk':=ao hk
    subst hk'
    split at h
    ·exact bt hop hx hy (fun w=>by simp[opI,binOp_add,Op.intArith]) h hg
    ·exact bt hop hx hy (fun w=>by simp[opI,binOp_sub,Op.intArith]) h hg
    ·exact bt hop hx hy (fun w=>by simp[opI,binOp_mul,Op.intArith]) h hg
    ·exact bt hop hx hy (fun w=>by simp[opI,binOp_and,intBits_and]) h hg
    ·exact bt hop hx hy (fun w=>by simp[opI,binOp_or,intBits_or]) h hg
    ·exact bt hop hx hy (fun w=>by simp[opI,binOp_xor,intBits_xor]) h hg
    ·exact bt hop hx hy (fun w=>by simp[opI,binOp_andNot,intBits_andNot]) h hg
    ·exact uM hop (.inl rfl) hx hy h hg
    ·exact uM hop (.inr rfl) hx hy h hg
    ·exact gE hop hx hy (fun w=>by simp[binOp_eql,kV]) h hg
    ·exact gE hop hx hy (fun w=>by simp[binOp_neq,bl,kV]; rfl) h hg
    ·exact gE hop hx hy (fun w=>by simp[binOp_lss,aG]) h hg
    ·exact gE hop hx hy (fun w=>by simp only[binOp_leq,bl,aG,jY]; rfl) h hg
    ·exact gE hop hx hy (fun w=>by simp[binOp_gtr,aG]) h hg
    ·exact gE hop hx hy (fun w=>by simp only[binOp_geq,bl,aG,ge_iff_le,jY]; rfl) h hg
    ·exact h.elim
   ·exact h.elim
 ·rename_i a b
  have eqb:∀(i:TI),af xt cx.ty=some i→i.isb=true→∀w,(Op.equal xt (.bool (a.B ρ)) (.bool (b.B ρ))).run P w=.ok (a.B ρ==b.B ρ) w:=by
   intro i hi hb w
   have hu:=(hT _ _ (ab hi)).isb hb
   unfold Op.equal Op.maxDepth Op.equalIn
   simp[Sem.run_bind,run_underlying hu]
  split at h
  ·split at h
   ·rename_i i hi
    split at h
    ·rename_i hb
     have h3:=eqb i hi hb
     exact nz hop hx hy (u:=.bool (a.B ρ==b.B ρ)) (fun j=>by simp[V.den,C.den,pD]) (fun w=>by simp[binOp,h3,Sem.run_bind]) h hg
    ·exact h.elim
   ·exact h.elim
  ·split at h
   ·rename_i i hi
    split at h
    ·rename_i hb
     have h3:=eqb i hi hb
     exact nz hop hx hy (u:=.bool (!(a.B ρ==b.B ρ))) (fun j=>by simp[V.den,C.den,pD,bl]) (fun w=>by simp[binOp,h3,Sem.run_bind]) h hg
    ·exact h.elim
   ·exact h.elim
  ·exact h.elim
 ·split at h
  ·rename_i i hi
   split at h
   ·rename_i hf
    have ht:=(hT _ _ (ab hi)).fnt hf
    split at h
    ·exact uN (.inl rfl) hop hx hy (fun f a b w=>(ht f a b w).1) h hg
    ·exact uN (.inr rfl) hop hx hy (fun f a b w=>(ht f a b w).1) h hg
    ·exact h.elim
   ·exact h.elim
  ·exact h.elim
 ·rename_i g
  split at h
  ·rename_i i hi
   split at h
   ·rename_i hf
    have ht:=(hT _ _ (ab hi)).fnt hf
    split at h
    ·rename_i h0; cases h0
    ·rename_i h0; cases h0
    ·exact lN (.inl rfl) hop hx hy (fun _=>rfl) (fun _=>rfl) (.inl ⟨_,rfl⟩) rfl (fun w=>(ht g #[] #[] w).1) h hg
    ·exact lN (.inr rfl) hop hx hy (fun _=>rfl) (fun _=>rfl) (.inl ⟨_,rfl⟩) rfl (fun w=>(ht g #[] #[] w).1) h hg
    ·exact h.elim
   ·exact h.elim
  ·exact h.elim
 ·split at h
  ·rename_i i hi
   split at h
   ·rename_i hf
    have ht:=(hT _ _ (ab hi)).fnt hf
    split at h
    ·exact lN (.inl rfl) hop hx hy (fun _=>rfl) (fun _=>rfl) (.inr rfl) rfl (fun w=>(ht 0 #[] #[] w).2) h hg
    ·exact lN (.inr rfl) hop hx hy (fun _=>rfl) (fun _=>rfl) (.inr rfl) rfl (fun w=>(ht 0 #[] #[] w).2) h hg
    ·rename_i h0; exact absurd rfl h0
    ·rename_i h0; exact absurd rfl h0
    ·exact h.elim
   ·exact h.elim
  ·exact h.elim
 ·split at h
  ·rename_i i e hi he
   split at h
   ·rename_i hq
    simp only[Bool.and_eq_true] at hq
    split at h
    ·exact qs hT (.inl rfl) hop hx hy hi hq.1 ⟨hq.2.1.1,rngs_ok _ kw.vk 0 rfl hq.2.1.2⟩ ⟨hq.2.2.1,rngs_ok _ kw.vk 0 rfl hq.2.2.2⟩ he h hg
    ·exact qs hT (.inr rfl) hop hx hy hi hq.1 ⟨hq.2.1.1,rngs_ok _ kw.vk 0 rfl hq.2.1.2⟩ ⟨hq.2.2.1,rngs_ok _ kw.vk 0 rfl hq.2.2.2⟩ he h hg
    ·exact h.elim
   ·exact h.elim
  ·exact h.elim
 ·exact h.elim
end
end Go.Proofs.Ytghiofgomcihcaa
