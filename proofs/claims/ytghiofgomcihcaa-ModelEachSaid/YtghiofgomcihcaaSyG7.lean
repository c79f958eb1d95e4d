import Derived.Test.YtghiofgomcihcaaSyG4
import Derived.Laws.CopyRow
import Derived.Laws.BytesString
set_option linter.unusedVariables false
set_option linter.unusedSimpArgs false
namespace Go.Proofs.Ytghiofgomcihcaa
open Go.RowKit
def acR (cx:Cx):Bool:=(af 999998 cx.hints).isSome
def lenW:E→E
 | .lrep (.len x) _=>.len x
 | a=>aY a
theorem wH (ρ:Env) (a:E):(lenW a).I ρ=((a.R ρ).length:Int):=by
 unfold lenW
 split
 ·simp[E.R,E.I]
 ·exact aU ρ _
def cd (l n:E):E:=match n with
 | .lit z=>if dG z 0 then .lnil else if n.same (lenW l) then l else .ltake l n
 | n=>if n.same (lenW l) then l else .ltake l n
def cw (l n:E):E:=match n with
 | .lit z=>if dG z 0 then l else if n.same (lenW l) then .lnil else .ldrop l n
 | n=>if n.same (lenW l) then .lnil else .ldrop l n
theorem iK {ρ:Env} {l n:E} (h:n.same (lenW l)=true):(n.I ρ).toNat=(l.R ρ).length:=by
 rw[E.same_eq h,wH]; rfl
theorem fZ (ρ:Env) (l n:E):(cd l n).R ρ=(l.R ρ).take (n.I ρ).toNat:=by
 unfold cd
 split
 ·split
  ·rename_i z hz
   rw[bH hz]; rfl
  ·split
   ·rename_i h; rw[iK h,List.take_length]
   ·rfl
 ·split
  ·rename_i h; rw[iK h,List.take_length]
  ·rfl
theorem gb (ρ:Env) (l n:E):(cw l n).R ρ=(l.R ρ).drop (n.I ρ).toNat:=by
 unfold cw
 split
 ·split
  ·rename_i z hz
   rw[bH hz]; rfl
  ·split
   ·rename_i h; rw[iK h,List.drop_length]; rfl
   ·rfl
 ·split
  ·rename_i h; rw[iK h,List.drop_length]; rfl
  ·rfl
def winE (l lo hi:E) (mx:Option E):E:=
 cE (bL (mkLt lo (.lit 0))) (cE (bL (mkLt hi lo)) (cE (bL (mkLt (aY l) hi)) (match mx with
  | none=>.tt true
  | some m=>cE (bL (mkLt m hi)) (bL (mkLt (aY l) m)))))
theorem tO {ρ:Env} {l lo hi:E} {mx:Option E} (h:(winE l lo hi mx).B ρ=true):0≤lo.I ρ∧lo.I ρ≤hi.I ρ∧hi.I ρ≤((l.R ρ).length:Int)∧∀m,mx=some m→hi.I ρ≤m.I ρ∧m.I ρ≤((l.R ρ).length:Int):=by
 unfold winE at h
 simp only[bN,bl,aG,aU,Bool.and_eq_true,Bool.not_eq_true',decide_eq_false_iff_not,E.I] at h
 obtain⟨h1,h2,h3,h4⟩:=h
 replace h1:¬lo.I ρ<0:=of_decide_eq_false h1
 refine⟨by omega,by omega,by omega,fun m hm=> ?_⟩
 subst hm
 simp only[bN,bl,aG,aU,Bool.and_eq_true,Bool.not_eq_true',decide_eq_false_iff_not] at h4
 omega
def idxE (vw:Vw) (o:Option Operand) (d:E):Option E:=match o with
 | none=>some d
 | some y=>match vw.ev y with
   | some (.one (.int _ e))=>some e
   | _=>none
def idxM (vw:Vw) (o:Option Operand):Option (Option E):=match o with
 | none=>some none
 | some y=>match vw.ev y with
   | some (.one (.int _ e))=>some (some e)
   | _=>none
def srcK (vw:Vw) (c:C) (kw:Kw) (k:Nat→RowOb→Kw→Tr):Tr:=match c with
 | .sl id=>match vw.sw id with
   | some r=>k id {r with own:=false} kw
   | none=>.stuck 180
 | .wn id sz lo hi mx=>match vw.sw id with
   | some r=>if Nat.beq r.ks.length sz then
    decK (winE r.l lo hi mx) (fun ok kw=>if ok then k id {r with l:=cw (cd r.l hi) lo,own:=false} kw else .stuck 181) kw
     else .stuck 182
   | none=>.stuck 183
 | _=>.stuck 184
def ac3:C→Bool
 | .sl _=>true
 | .wn _ _ _ _ _=>true
 | _=>false
def acy:C→Bool
 | .wn _ _ _ _ _=>true
 | _=>false
def sumE (a b:E):E:=match a with
 | .lit z=>if dG z 0 then b else eg .add .i64 a b
 | a=>eg .add .i64 a b
def rh:C→C→Option Bool
 | .ptr _ _,.nilp | .fp _ _,.nilp | .nilp,.ptr _ _ | .nilp,.fp _ _=>some false
 | .nilp,.nilp=>some true
 | _,_=>none
section
variable {P:Program} {sp:Spec} {ρ:Env} {G:Env→E→Prop} {I:Nat→List Dt→Prop} {base:Nat} {cx:Cx} {vw:Vw} {o:Oper} {k:Eff→Kw→Tr}
theorem kJ {s:SV} {l h m esz:Nat} (hm:m≤s.c):∀k,(s.cut esz l h m).blk false=some k→s.blk false=some k:=by
 intro k hk
 have hc:m-l≠0:=fun hc=>by
  unfold SV.blk at hk
  simp[SV.cut,hc] at hk
 refine kx (by omega) ?_
 have hk:=ap hk
 obtain⟨a,n,c,z⟩:=s
 simp only[SV.cut,SV.v] at hk ⊢
 rw[if_neg (by omega)] at hk
 cases a with
 | none=>simp[Value.ownBlock] at hk
 | some a=>
   simp only[Option.map_some,Value.ownBlock,Option.some.injEq] at hk ⊢
   rw[←hk]
   unfold Addr.add
   split<;>rfl
theorem qi {w:World} {s:SV} {r q:RowOb} {l h m:Nat} (hok:SlOk ρ base w s r) (hq:q.ks=r.ks∧q.own=false) (hL:q.l.R ρ=((r.l.R ρ).take h).drop l) (h1:l≤h) (h2:h≤s.n) (h3:h≤m) (h4:m≤s.c):
  SlOk ρ base w (s.cut r.ks.length l h m) q:=by
 obtain⟨r1,r2,r3,r4,r5⟩:=hok.rd
 have hn:=hok.n
 have hlen:(q.l.R ρ).length=h-l:=by rw[hL,List.length_drop,List.length_take]; omega
 have hrows:∀x∈q.l.R ρ,ar r.ks x=true:=fun x hx=>hok.rows.row x (by rw[hL] at hx; exact List.mem_of_mem_take (List.mem_of_mem_drop hx))
 refine⟨hlen.symm,⟨by rw[hq.1]; exact hrows,by rw[hlen]; omega⟩,by rw[hq.1]; exact hok.pos,fun k hk=> ?_,fun ho=>(by rw[hq.2] at ho; cases ho),?_⟩
 ·rw[hq.2] at hk
  exact hok.lt k (ba (kJ h4 k hk))
 ·rw[hq.1]
  have hfl:flat r.ks (q.l.R ρ)=((flat r.ks (r.l.R ρ)).take (h*r.ks.length)).drop (l*r.ks.length):=by
   rw[gm h hok.rows.row,gn l (fun x hx=>hok.rows.row x (List.mem_of_mem_take hx)),hL]
  refine⟨by rw[aL hrows,hlen]; rfl,by simp only[SV.cut]; omega,by simp only[SV.cut]; omega,fun ha=> ?_,fun a ha i u hi=> ?_⟩
  ·simp only[SV.cut] at ha ⊢
   split at ha
   ·have:=r4 ha; omega
   ·rw[Option.map_eq_none_iff] at ha
    have:=r4 ha; omega
  ·simp only[SV.cut] at ha
   have hlt:i<(flat r.ks (q.l.R ρ)).length:=(List.getElem?_eq_some_iff.1 hi).1
   rw[aL hrows,hlen] at hlt
   split at ha
   ·rename_i hc
    have:h-l=0:=by omega
    rw[this] at hlt
    omega
   ·rw[Option.map_eq_some_iff] at ha
    obtain⟨a0,ha0,rfl⟩:=ha
    rw[aX]
    refine r5 a0 ha0 _ u ?_
    rw[hfl,List.getElem?_drop,List.getElem?_take] at hi
    split at hi
    ·exact hi
    ·cases hi
theorem ma {w:World} {t et esz:Nat} (hu:P.underlying t=some (.slice et)) (hs:(sizeOf et).run P w=.ok esz w) (s:SV) (l h m:Nat) (low high mx:Option Value) (hl:(low=none∧l=0)∨∃kd:IntKind,low=some (.int kd (l:Int))) (hh:(high=none∧mx=none∧h=s.n)∨∃kd:IntKind,high=some (.int kd (h:Int))) (hm:(mx=none∧m=s.c)∨∃kd:IntKind,mx=some (.int kd (m:Int))) (h1:l≤h) (h3:h≤m) (h4:m≤s.c):
  (Instr.sliceAt t s.v low high mx).run P w=.ok (s.cut esz l h m).v w:=by
 have sb:∀(kd:IntKind) (m y:Nat) code,m≤y→(Instr.sliceBound (.int kd (m:Int)) y code).run P w=.ok m w:=fun kd m y code hmy=>by
  have h5:(m:Int)≤(y:Int):=by omega
  simp[Instr.sliceBound,asIntOf,Sem.run_bind,hmy]
 have b1:(Instr.sliceBounds true s.n s.c low high mx).run P w=.ok (l,h,m) w:=by
  rcases hm with⟨rfl,rfl⟩ | ⟨kd2,rfl⟩
  ·rcases hl with⟨rfl,rfl⟩ | ⟨kd,rfl⟩<;>rcases hh with⟨rfl,_,rfl⟩ | ⟨kd',rfl⟩
   ·simp[Instr.sliceBounds,Sem.run_bind]
   ·simp[Instr.sliceBounds,Sem.run_bind,sb kd' h s.c _ h3]
   ·simp[Instr.sliceBounds,Sem.run_bind,sb kd l s.n _ h1]
   ·simp[Instr.sliceBounds,Sem.run_bind,sb kd l h _ h1,sb kd' h s.c _ h3]
  ·rcases hh with⟨_,hx,_⟩ | ⟨kd',rfl⟩
   ·cases hx
   ·rcases hl with⟨rfl,rfl⟩ | ⟨kd,rfl⟩
    ·simp[Instr.sliceBounds,Sem.run_bind,sb kd2 m s.c _ h4,sb kd' h m _ h3]
    ·simp[Instr.sliceBounds,Sem.run_bind,sb kd2 m s.c _ h4,sb kd l h _ h1,sb kd' h m _ h3]
 simp[Instr.sliceAt,Instr.slice,SV.v,SV.cut,run_underlying hu,Sem.run_bind,b1,hs]
theorem jh {c:C} {kw:Kw} {kk:Nat→RowOb→Kw→Tr} (h:(srcK vw c kw kk).holds sp G ρ I) (hg:Good sp cx.sm ρ kw):
  ∃id r kw',(kk id r kw').holds sp G ρ I∧Good sp cx.sm ρ kw'∧KwGe kw' kw∧r.kd=.sl∧r.own=false∧
   ∀(j:J) (w:World) (rr:List Nat) (v:Value),RrOk ρ base j w vw.rw rr→id∈rr→(V.one c).den ρ j=some v→∃s,v=s.v∧SlOk ρ base w s r∧∃s0,j.s id=some s0∧∀k,s.blk false=some k→s0.blk false=some k:=by
 unfold srcK at h
 split at h
 ·rename_i id
  split at h
  ·rename_i r hr
   refine⟨id,_,kw,h,hg,.refl _,(Vw.sw_some hr).2,rfl,fun j w rr v hrr hid hv=> ?_⟩
   obtain⟨s,hs,hok⟩:=hrr.sl id hid r hr
   exact⟨s,gF hs hv,hok.shut,s,hs,fun _ h=>h⟩
  ·exact h.elim
 ·rename_i id sz lo hi mx
  split at h
  ·rename_i r hr
   split at h
   ·rename_i hsz
    have hsz:=Nat.eq_of_beq_eq_true hsz
    obtain⟨kw1,h1,g1,_,l1⟩:=ak _ _ _ h hg
    split at h1
    ·rename_i hwin
     obtain⟨b1,b2,b3,b4⟩:=tO hwin
     refine⟨id,_,kw1,h1,g1,l1,(Vw.sw_some hr).2,rfl,fun j w rr v hrr hid hv=> ?_⟩
     obtain⟨s,hs,hok⟩:=hrr.sl id hid r hr
     have hv':some (s.cut sz (lo.I ρ).toNat (hi.I ρ).toNat (mxN ρ mx s.c)).v=some v:=by
      have:(j.s id).map (fun s=>(s.cut sz (lo.I ρ).toNat (hi.I ρ).toNat (mxN ρ mx s.c)).v)=some v:=hv
      rwa [hs] at this
     have hn:=hok.n
     have hnc:=hok.rd.2.1
     have hm:(hi.I ρ).toNat≤mxN ρ mx s.c∧mxN ρ mx s.c≤s.c:=by
      cases mx with
      | none=>exact⟨by simp only[mxN]; omega,Nat.le_refl _⟩
      | some m=>have:=b4 m rfl; exact⟨by simp only[mxN]; omega,by simp only[mxN]; omega⟩
     refine⟨_,(Option.some.inj hv').symm,?_,s,hs,kJ hm.2⟩
     rw[←hsz]
     exact qi hok ⟨rfl,rfl⟩ (by rw[gb,fZ]) (by omega) (by omega) hm.1 hm.2
    ·exact h1.elim
   ·exact h.elim
  ·exact h.elim
 ·exact h.elim
theorem mB {o1:Option Operand} {d e:E} (h:idxE vw o1 d=some e):(o1=none∧e=d)∨∃y kd,o1=some y∧vw.ev y=some (.one (.int kd e)):=by
 unfold idxE at h
 split at h
 ·cases h; exact .inl ⟨rfl,rfl⟩
 ·rename_i y
  split at h
  ·rename_i kd e' he; cases h; exact .inr ⟨y,kd,rfl,he⟩
  ·cases h
theorem abB {o1:Option Operand} {mx:Option E} (h:idxM vw o1=some mx):(o1=none∧mx=none)∨∃y kd e,o1=some y∧mx=some e∧vw.ev y=some (.one (.int kd e)):=by
 unfold idxM at h
 split at h
 ·cases h; exact .inl ⟨rfl,rfl⟩
 ·rename_i y
  split at h
  ·rename_i kd e' he; cases h; exact .inr ⟨y,kd,_,rfl,rfl,he⟩
  ·cases h
theorem aal (hT:∀t i,(t,i)∈cx.ty→TIok P t i) {t:Nat} {x:Operand} {lo hi' mx':Option Operand} {kw:Kw} (hop:o.op=.slice t x lo hi' mx') {id:Nat} (hx:vw.ev x=some (.one (.sl id))) {i:TI} (hi:af t cx.ty=some i) {et:Nat} (ha:i.sle=some et) {ie:TI} (hie:af et cx.ty=some ie)
  {r:RowOb} (hr:vw.sw id=some r) (hks:r.ks.length=ie.size) {a b:E} {m:Option E} (hlo:idxE vw lo (.lit 0)=some a) (hhi:idxE vw hi' (aY r.l)=some b) (hmx:idxM vw mx'=some m) (hnn:hi'=none→mx'=none)
  (h:(decK (winE r.l a b m) (fun ok kw=>if ok then k {val:=.one (.wn id ie.size a b m),rr:=[id]} kw else .panic) kw).holds sp G ρ I) (hg:Good sp cx.sm ρ kw):Sound P sp ρ G I base cx vw o k kw:=by
 obtain⟨kw1,h1,g1,_,l1⟩:=ak _ _ _ h hg
 split at h1
 ·rename_i hwin
  obtain⟨b1,b2,b3,b4⟩:=tO hwin
  refine⟨_,kw1,h1,g1,l1,OpOk.pure fun j ac w _ hev _ hrr _=> ?_⟩
  obtain⟨s,hs,hok⟩:=hrr.sl id (by simp) r hr
  have hd:=gF hs (hev x (by simp[hop,Op.operands]) _ hx)
  have hu:=(hT _ _ (ab hi)).sle et ha
  have hsz:=(hT _ _ (ab hie)).size w
  have hn:=hok.n
  have hnc:=hok.rd.2.1
  refine⟨(s.cut ie.size (a.I ρ).toNat (b.I ρ).toNat (mxN ρ m s.c)).v,by simp[V.den,C.den,hs],?_⟩
  have hl1:(lo.map ac.eval=none∧(a.I ρ).toNat=0)∨∃kd:IntKind,lo.map ac.eval=some (.int kd (((a.I ρ).toNat:Nat):Int)):=by
   rcases mB hlo with⟨rfl,rfl⟩ | ⟨y,kd,rfl,hy⟩
   ·exact .inl ⟨rfl,rfl⟩
   ·refine .inr ⟨kd,?_⟩
    rw[Option.map_some,aQ (hev y (by simp[hop,Op.operands]) _ hy),Int.toNat_of_nonneg b1]
  have hh1:(hi'.map ac.eval=none∧mx'.map ac.eval=none∧(b.I ρ).toNat=s.n)∨∃kd:IntKind,hi'.map ac.eval=some (.int kd (((b.I ρ).toNat:Nat):Int)):=by
   rcases mB hhi with⟨rfl,rfl⟩ | ⟨y,kd,rfl,hy⟩
   ·exact .inl ⟨rfl,by rw[hnn rfl]; rfl,by rw[aU,hn]; rfl⟩
   ·refine .inr ⟨kd,?_⟩
    rw[Option.map_some,aQ (hev y (by simp[hop,Op.operands]) _ hy),Int.toNat_of_nonneg (by omega)]
  have hm1:(mx'.map ac.eval=none∧mxN ρ m s.c=s.c)∨∃kd:IntKind,mx'.map ac.eval=some (.int kd ((mxN ρ m s.c:Nat):Int)):=by
   rcases abB hmx with⟨rfl,rfl⟩ | ⟨y,kd,e,rfl,rfl,hy⟩
   ·exact .inl ⟨rfl,rfl⟩
   ·refine .inr ⟨kd,?_⟩
    have:=b4 e rfl
    rw[Option.map_some,aQ (hev y (by simp[hop,Op.operands]) _ hy)]
    simp only[mxN]
    rw[Int.toNat_of_nonneg (by omega)]
  have hm:(b.I ρ).toNat≤mxN ρ m s.c∧mxN ρ m s.c≤s.c:=by
   cases m with
   | none=>exact⟨by simp only[mxN]; omega,Nat.le_refl _⟩
   | some m=>have:=b4 m rfl; exact⟨by simp only[mxN]; omega,by simp only[mxN]; omega⟩
  have hrun:=ma (P:=P) hu hsz s _ _ _ _ _ _ hl1 hh1 hm1 (by omega) hm.1 hm.2
  simp only[execOp,hop,hd,Sem.run_bind,hrun,Result.andThen_ok,Sem.run_pure]
 ·exact h1.elim
theorem xN (hT:∀t i,(t,i)∈cx.ty→TIok P t i) {c:Call} {kw:Kw} (hop:o.op=.call c) (hc:c.callee=.builtin .len) {d:C} {t:Nat} (hl:evL vw.ev c.args.toList=some [.one d]) (hty:c.argTypes.toList=[t]) {i:TI} (hi:af t cx.ty=some i) (hsl:i.sle.isSome=true)
  (h:(srcK vw d kw fun id r kw=>k {val:=.one (.int .i64 (lenE kw.vk r.l)),rr:=[id]} kw).holds sp G ρ I) (hg:Good sp cx.sm ρ kw):Sound P sp ρ G I base cx vw o k kw:=by
 obtain⟨id,r,kw1,h1,g1,l1,_,_,hsrc⟩:=jh (base:=base) h hg
 refine⟨_,kw1,h1,g1,l1,OpOk.pure fun j a w _ hev _ hrr _=> ?_⟩
 obtain⟨e1,e2⟩:=dE (j:=j) (a:=a) hl (fun x hx=>hev x (by simp[hop,Op.operands,Call.operands]; exact .inr (by simpa using hx)))
 obtain⟨u,hu1⟩:∃u,c.args.toList.map a.eval=[u]:=by
  match hm:c.args.toList.map a.eval,e2 with
  | [u],_=>exact⟨u,rfl⟩
 obtain⟨s,rfl,hok,_⟩:=hsrc j w [id] u hrr (by simp) (by rw[hu1] at e1; exact e1 0 _ u rfl rfl)
 have h3:c.args.map a.eval = #[s.v]:=by
  rw[←Array.toArray_toList (xs:=c.args.map a.eval),Array.toList_map,hu1]
 obtain⟨et,het⟩:=Option.isSome_iff_exists.1 hsl
 have hu:=(hT _ _ (ab hi)).sle et het
 have hat:c.argTypes = #[t]:=by rw[←Array.toArray_toList (xs:=c.argTypes),hty]
 have hle:(r.l.R ρ).length≤maxLen:=hok.rows.len
 refine⟨.int .i64 (s.n:Int),by rw[hok.n]; simp[V.den,C.den,gY hle],?_⟩
 simp[execOp,hop,resolve,hc,h3,hat,Sem.run_bind,invoke,builtin,Builtin.len_,run_underlying hu,SV.v,goInt]
theorem sB (hT:∀t i,(t,i)∈cx.ty→TIok P t i) {t:Nat} {x y:Operand} {kw:Kw} (hop:o.op=.indexAddr t x y) {id sz:Nat} {lo hi:E} {mx:Option E} (hx:vw.ev x=some (.one (.wn id sz lo hi mx))) {k0:IntKind} {e:E} (hy:vw.ev y=some (.one (.int k0 e))) {i:TI} (hi':af t cx.ty=some i)
  {et:Nat} (ha:i.sle=some et) {ie:TI} (hie:af et cx.ty=some ie) {r:RowOb} (hr:vw.sw id=some r) (hks:r.ks.length=ie.size) (hsz:sz=ie.size)
  (h:(decK (winE r.l lo hi mx) (fun ok kw=>if ok then decK (inB e (cw (cd r.l hi) lo)) (fun b kw=>if b then k {val:=.one (.ep id ie.size (sumE lo e) 0),rr:=[id]} kw else .panic) kw else .stuck 185) kw).holds sp G ρ I) (hg:Good sp cx.sm ρ kw):Sound P sp ρ G I base cx vw o k kw:=by
 obtain⟨kw1,h1,g1,_,l1⟩:=ak _ _ _ h hg
 split at h1
 ·rename_i hwin
  obtain⟨b1,b2,b3,b4⟩:=tO hwin
  obtain⟨kw2,h2,g2,_,l2⟩:=ak _ _ _ h1 g1
  rw[th] at h2
  split at h2
  ·rename_i hb
   simp only[Bool.and_eq_true,decide_eq_true_eq,gb,fZ,List.length_drop,List.length_take] at hb
   refine⟨_,kw2,h2,g2,l2.trans l1,OpOk.pure fun j a w _ hev _ hrr _=> ?_⟩
   obtain⟨s,hs,hok⟩:=hrr.sl id (by simp) r hr
   have hd:=hev x (by simp[hop,Op.operands]) _ hx
   simp only[V.den,C.den,hs,Option.map_some,Option.some.injEq] at hd
   have hq:=aQ (hev y (by simp[hop,Op.operands]) _ hy)
   have hu:=(hT _ _ (ab hi')).sle et ha
   have hesz:=(hT _ _ (ab hie)).size
   have hn:=hok.n
   have hrd:=hok.rd
   have hlen:=hok.rows.len
   obtain⟨sa,sn,sc,sz⟩:=s
   simp only at hn
   have hsum:(sumE lo e).I ρ=lo.I ρ+e.I ρ:=by
    have hadd:(eg .add .i64 lo e).I ρ=lo.I ρ+e.I ρ:=by
     rw[mt]
     show IntKind.i64.wrap _=_
     refine jg ?_
     rw[aO]
     simp only[maxLen] at hlen
     simp only[IntKind.min,IntKind.max,IntKind.signed,IntKind.bits]
     simp
     omega
    unfold sumE
    split
    ·split
     ·rename_i z hz
      have:=bH hz
      simp only[E.I] at *
      omega
     ·exact hadd
    ·exact hadd
   cases sa with
   | none=>have:=(hrd.2.2.2.1 rfl).1; simp only at this; omega
   | some p=>
     have hm:mxN ρ mx sc≠(lo.I ρ).toNat:=by
      have hnc:=hrd.2.1
      simp only at hnc
      cases mx with
      | none=>simp only[mxN]; omega
      | some m=>have:=b4 m rfl; simp only[mxN]; omega
     refine⟨.pointer (some (p.add (((sumE lo e).I ρ).toNat*ie.size+0))),by simp[V.den,C.den,hs,SV.elem],?_⟩
     have hlt:(0:Int)≤e.I ρ∧e.I ρ<(((hi.I ρ).toNat-(lo.I ρ).toNat:Nat):Int):=by omega
     have hadr:(p.add ((lo.I ρ).toNat*ie.size)).add ((e.I ρ).toNat*ie.size)=p.add (((sumE lo e).I ρ).toNat*ie.size+0):=by
      rw[aX,hsum]
      congr 1
      have e3:(lo.I ρ+e.I ρ).toNat=(lo.I ρ).toNat+(e.I ρ).toNat:=by omega
      rw[e3,Nat.add_zero,Nat.add_mul]
     subst hsz
     simp[execOp,hop,←hd,SV.v,SV.cut,hm,hq,Instr.indexAt,run_underlying hu,asIntOf,hlt,hesz,Sem.run_bind,hadr]
  ·exact h2.elim
 ·exact h1.elim
theorem uP (hT:∀t i,(t,i)∈cx.ty→TIok P t i) {c:Call} {kw:Kw} (hop:o.op=.call c) (hc:c.callee=.builtin .append) {d:C} {t:Nat} (hl:evL vw.ev c.args.toList=some [.one .nsl,.one d]) (hty:c.argTypes.toList=[t,t]) {i:TI} (hi:af t cx.ty=some i) {et:Nat} (ha:i.sle=some et) {ie:TI} (hie:af et cx.ty=some ie) (hpos:0<ie.size∧ie.bytes≤65536)
  (h:(srcK vw d kw fun id r kw=>if Nat.beq r.ty et&&Nat.beq r.ks.length ie.size then decK (mkLt (aY r.l) (.lit bigB)) (fun b kw=>if b then k {val:=.one (.sl vw.nid),rr:=[id],re:=.mk [⟨r.ks,et,r.l,true,.sl⟩]} kw else .panic) kw else .stuck 186).holds sp G ρ I) (hg:Good sp cx.sm ρ kw):Sound P sp ρ G I base cx vw o k kw:=by
 obtain⟨id,r,kw0,h0,g0,l0,_,_,hsrc⟩:=jh (base:=base) h hg
 split at h0
 ·rename_i hq
  simp only[Bool.and_eq_true] at hq
  have hq:r.ty=et∧r.ks.length=ie.size∧0<ie.size∧ie.bytes≤65536:=⟨Nat.eq_of_beq_eq_true hq.1,Nat.eq_of_beq_eq_true hq.2,hpos.1,hpos.2⟩
  obtain⟨kw1,h1,g1,_,l1⟩:=ak _ _ _ h0 g0
  rw[aG,aU] at h1
  split at h1
  ·rename_i hbig
   have hbig':((r.l.R ρ).length:Int)<1073741824:=of_decide_eq_true hbig
   refine⟨_,kw1,h1,g1,l1.trans l0,fun j a w hb hev hrd hwr hrr hfb K Q hK=> ?_⟩
   obtain⟨u1,u2,hargs,hd1,hd2⟩:=kG (j:=j) (a:=a) hl (fun x hx=>hev x (by simp[hop,Op.operands,Call.operands]; exact .inr (by simpa using hx)))
   obtain⟨s,e2,hok,_⟩:=hsrc j w [id] u2 hrr (by simp) hd2
   have e1:=iv hd1
   subst e1 e2
   have hu:=(hT _ _ (ab hi)).sle et ha
   obtain⟨inf,z,hinf,hisz,hbytes,hz,hzl,hzd⟩:=(hT _ _ (ab hie)).info
   have hat:c.argTypes = #[t,t]:=by rw[←Array.toArray_toList (xs:=c.argTypes),hty]
   have hn:=hok.n
   have hrd':=hok.rd
   rw[hq.2.1,←hisz] at hrd'
   obtain⟨s',w',h2,h3,h4,h5,h6,h7⟩:=bc (P:=P) (base:=w.heap.size) (ty:=o.type) hu hinf hz (by rw[hisz]; simpa using hzl) (by omega) (World.ownsRow_nil w w.heap.size et inf.size) hrd' eE (by simp only[maxLen]; omega)
    (by
     have:(0+s.n)*inf.bytes≤1073741824*65536:=Nat.mul_le_mul (by omega) (by omega)
     omega) (Nat.le_refl _)
   simp only[Nat.zero_add,List.nil_append] at h3 h4
   rw[hisz,←hq.2.1,←h3] at h4
   refine bs (w':=w') (v:=s'.v) ?_ (hK _ (j.putL vw.nid [s']) _ nC (oz (Ext.of_grown h5) (RowOk.mk_own (r:=⟨r.ks,et,r.l,true,.sl⟩) rfl (by rw[h3]; exact hn) hok.rows hok.pos h4) rfl rfl))
   simp only[execOp,hop,resolve,hc,hargs,hat,Sem.run_bind,Sem.run_pure,Result.andThen_ok,invoke,builtin,h2]
  ·exact h1.elim
 ·exact h0.elim
theorem xS (hT:∀t i,(t,i)∈cx.ty→TIok P t i) {c:Call} {kw:Kw} (hop:o.op=.call c) (hc:c.callee=.builtin .append) {old t:Nat} {d:C} (hl:evL vw.ev c.args.toList=some [.one (.sl old),.one d]) (hty:c.argTypes.toList=[t,t]) {i:TI} (hi:af t cx.ty=some i) {et:Nat} (ha:i.sle=some et) {ie:TI} (hie:af et cx.ty=some ie) (hpos:0<ie.size∧ie.bytes≤65536)
  {q:RowOb} (hrq:vw.sw old=some q) (hown:q.own=true)
  (h:(srcK vw d kw fun id r kw=>if Nat.beq r.ty et&&(Nat.beq r.ks.length ie.size&&(Nat.beq q.ty et&&(bk q.ks r.ks &&!Nat.beq old id))) then decK (cE (mkLt (aY q.l) (.lit bigB)) (mkLt (aY r.l) (.lit bigB))) (fun b kw=>if b then k {val:=.one (.sl vw.nid),rr:=[old,id],re:=.app old ⟨r.ks,et,catE q.l r.l,true,.sl⟩} kw else .panic) kw else .stuck 187).holds sp G ρ I) (hg:Good sp cx.sm ρ kw):Sound P sp ρ G I base cx vw o k kw:=by
 obtain⟨id,r,kw0,h0,g0,l0,_,_,hsrc⟩:=jh (base:=base) h hg
 split at h0
 ·rename_i hq
  simp only[Bool.and_eq_true] at hq
  have hq2:q.ty=et∧q.ks=r.ks:=⟨Nat.eq_of_beq_eq_true hq.2.2.1,bg hq.2.2.2.1⟩
  have hq:r.ty=et∧r.ks.length=ie.size:=⟨Nat.eq_of_beq_eq_true hq.1,Nat.eq_of_beq_eq_true hq.2.1⟩
  obtain⟨kw1,h1,g1,_,l1⟩:=ak _ _ _ h0 g0
  rw[bN,aG,aG,aU,aU] at h1
  split at h1
  ·rename_i hbig
   rw[Bool.and_eq_true] at hbig
   have hb1:((q.l.R ρ).length:Int)<1073741824:=of_decide_eq_true hbig.1
   have hb2:((r.l.R ρ).length:Int)<1073741824:=of_decide_eq_true hbig.2
   refine⟨_,kw1,h1,g1,l1.trans l0,fun j a w hb hev hrd hwr hrr hfb K Q hK=> ?_⟩
   obtain⟨p,hp,hop'⟩:=hrr.sl old (by simp) q hrq
   obtain⟨u1,u2,hargs,hd1,hd2⟩:=kG (j:=j) (a:=a) hl (fun x hx=>hev x (by simp[hop,Op.operands,Call.operands]; exact .inr (by simpa using hx)))
   obtain⟨s,e2,hok,_⟩:=hsrc j w [old,id] u2 hrr (by simp) hd2
   have e1:=gF hp hd1
   subst e1 e2
   have hu:=(hT _ _ (ab hi)).sle et ha
   obtain⟨inf,z,hinf,hisz,hbytes,hz,hzl,hzd⟩:=(hT _ _ (ab hie)).info
   have hat:c.argTypes = #[t,t]:=by rw[←Array.toArray_toList (xs:=c.argTypes),hty]
   have hn:=hok.n
   have hpn:=hop'.n
   have hown':=hop'.own hown
   rw[hq2.1,hq2.2,hq.2,←hisz] at hown'
   have hrd':=hok.rd
   rw[hq.2,←hisz] at hrd'
   obtain⟨s',w',h2,h3,h4,h5,h6,h7⟩:=bc (P:=P) (base:=base) (ty:=o.type) hu hinf hz (by rw[hisz]; simpa using hzl) (by have:=hpos.1; omega) hown' hrd' eE (by simp only[maxLen]; omega)
    (by
     have:(p.n+s.n)*inf.bytes≤2147483648*65536:=Nat.mul_le_mul (by omega) (by have:=hpos.2; omega)
     omega) hb
   rw[←du,hisz,←hq.2,←h3] at h4
   have hR:(catE q.l r.l).R ρ=q.l.R ρ++r.l.R ρ:=xu ρ _ _
   refine bs (w':=w') (v:=s'.v) ?_ (hK _ (j.putS vw.nid s') _ pb ⟨p,s',hp,h5,RowOk.mk_own (r:=⟨r.ks,et,catE q.l r.l,true,.sl⟩) rfl ?_ ⟨fun x hx=> ?_,?_⟩ hok.pos (by simp only[hR]; exact h4),h6,Zin.nil h7,rfl⟩)
   ·simp only[execOp,hop,resolve,hc,hargs,hat,Sem.run_bind,Sem.run_pure,Result.andThen_ok,invoke,builtin,h2]
   ·simp only[hR,List.length_append]; omega
   ·simp only[hR,List.mem_append] at hx
    rcases hx with hx | hx
    ·have:=hop'.rows.row x hx; rw[hq2.2] at this; exact this
    ·exact hok.rows.row x hx
   ·simp only[hR,List.length_append,maxLen]; omega
  ·exact h1.elim
 ·exact h0.elim
theorem wh {c d:C} {b:Bool} (h:rh c d=some b) {j:J} {x y:Value} (hx:(V.one c).den ρ j=some x) (hy:(V.one d).den ρ j=some y):∃p q,x=.pointer p∧y=.pointer q∧(p=none∨q=none)∧b=(p.isNone&&q.isNone):=by
 unfold rh at h
 split at h<;>cases h
 ·obtain⟨k,_,rfl⟩:=eU hx; cases hy; exact⟨_,_,rfl,rfl,.inr rfl,rfl⟩
 ·obtain⟨k,_,rfl⟩:=wW hx; cases hy; exact⟨_,_,rfl,rfl,.inr rfl,rfl⟩
 ·obtain⟨k,_,rfl⟩:=eU hy; cases hx; exact⟨_,_,rfl,rfl,.inl rfl,rfl⟩
 ·obtain⟨k,_,rfl⟩:=wW hy; cases hx; exact⟨_,_,rfl,rfl,.inl rfl,rfl⟩
 ·cases hx; cases hy; exact⟨_,_,rfl,rfl,.inl rfl,rfl⟩
theorem sO {t e:Nat} (hu:P.underlying t=some (.pointer e)) (p q:Option Addr) (h:p=none∨q=none) (w:World):(Op.equal t (.pointer p) (.pointer q)).run P w=.ok (p.isNone&&q.isNone) w:=by
 unfold Op.equal
 have key:∀d x y,(Op.equalIn (d+1) t x y).run P w=_:=fun d x y=>by rw[Op.equalIn,Sem.run_bind,run_underlying hu]
 rcases h with rfl | rfl
 ·refine(key 9999 _ _).trans ?_
  cases q<;>rfl
 ·refine(key 9999 _ _).trans ?_
  cases p<;>rfl
theorem uE (hT:∀t i,(t,i)∈cx.ty→TIok P t i) {op:BinOp} (hne:op=.eql∨op=.neq) {xt yt:Nat} {x y:Operand} {kw:Kw} (hop:o.op=.binOp op xt x y yt) {c d:C} (hx:vw.ev x=some (.one c)) (hy:vw.ev y=some (.one d)) {i:TI} (hi:af xt cx.ty=some i) (hk:i.kd=1) {b:Bool} (hb:rh c d=some b)
  (h:(k {val:=.one (.bool (.tt (if op=.eql then b else !b)))} kw).holds sp G ρ I) (hg:Good sp cx.sm ρ kw):Sound P sp ρ G I base cx vw o k kw:=by
 refine⟨_,kw,h,hg,.refl _,OpOk.pure fun j ac w _ hev _ _ _=>⟨.bool (if op=.eql then b else !b),by simp[V.den,C.den,E.B],?_⟩⟩
 obtain⟨e,hu⟩:=(hT _ _ (ab hi)).ptr hk
 obtain⟨p,q,h1,h2,h3,rfl⟩:=wh hb (hev x (by simp[hop,Op.operands]) _ hx) (hev y (by simp[hop,Op.operands]) _ hy)
 have h4:=sO hu p q h3 w
 rcases hne with rfl | rfl<;>simp[execOp,hop,h1,h2,eqGuard,binOp,h4,Sem.run_bind]
theorem lg:∀(ns:List Int) (s:ByteArray),(ns.foldl (fun r n=>r.push (UInt8.ofNat n.toNat)) s)=⟨(s.data.toList++ns.map fun n=>UInt8.ofNat n.toNat).toArray⟩
 | [],s=>by simp
 | n::ns,s=>by
   rw[List.foldl_cons,lg ns]
   have:(s.push (UInt8.ofNat n.toNat)).data.toList=s.data.toList++[UInt8.ofNat n.toNat]:=by
    show(s.data.push _).toList=_
    simp
   rw[this]
   simp
theorem aam (hT:∀t i,(t,i)∈cx.ty→TIok P t i) {s d:Nat} {x:Operand} {kw:Kw} (hop:o.op=.convert s d x) {c:C} (hx:vw.ev x=some (.one c)) {is id0 ie:TI} (his:af s cx.ty=some is) {et:Nat} (hse:is.sle=some et) (hie:af et cx.ty=some ie) (hik:ie.ik=some .u8) (hid:af d cx.ty=some id0) (hd:id0.kd=2)
  (h:(srcK vw c kw fun id r kw=>if bk r.ks [some .u8] then k {val:=.one (.str r.l),rr:=[id]} kw else .stuck 188).holds sp G ρ I) (hg:Good sp cx.sm ρ kw):Sound P sp ρ G I base cx vw o k kw:=by
 obtain⟨id,r,kw1,h1,g1,l1,_,_,hsrc⟩:=jh (base:=base) h hg
 split at h1
 ·rename_i hks
  have hks:=bg hks
  refine⟨_,kw1,h1,g1,l1,OpOk.pure fun j a w _ hev _ hrr _=> ?_⟩
  obtain⟨sv,hv,hok,_⟩:=hsrc j w [id] _ hrr (by simp) (hev x (by simp[hop,Op.operands]) _ hx)
  have hu:=(hT _ _ (ab his)).sle et hse
  have hue:=(hT _ _ (ab hie)).ik _ hik
  have hud:=(hT _ _ (ab hid)).stg hd
  refine⟨.string (fd (r.l.R ρ)),rfl,?_⟩
  have hrows:=hok.rows.row
  rw[hks] at hrows
  have hflat:flat [some .u8] (r.l.R ρ)=((r.l.R ρ).map fun q=>q.getD 0 0).map (Value.int .u8):=by
   unfold flat
   rw[List.map_map]
   generalize r.l.R ρ=L at hrows ⊢
   induction L with
   | nil=>rfl
   | cons q L ih=>
     have h2:=bT (hrows q List.mem_cons_self)
     match q,h2 with
     | [z],_=>
       rw[List.flatMap_cons,ih (fun r hr=>hrows r (List.mem_cons_of_mem _ hr))]
       rfl
  have hrd:=hok.rd
  rw[hks] at hrd
  have hn:=hok.n
  have hconv:(convert s d sv.v).run P w=.ok (.string (fd (r.l.R ρ))) w:=by
   obtain⟨sa,sn,sc,sz⟩:=sv
   have e1:=run_convert_bytes_string (P:=P) w s d et sa sn sc hu hue hud
   show(convert s d (.slice sa sn sc)).run P w=_
   rw[e1]
   cases sa with
   | none=>
     have h0:=(hrd.2.2.2.1 rfl).1
     simp only at h0 hn
     have hL:r.l.R ρ=[]:=List.length_eq_zero_iff.1 (by omega)
     rw[hL]
     rfl
   | some ad=>
     have hload:(loadCells ad sn).run P w=.ok (((r.l.R ρ).map fun q=>q.getD 0 0).map (Value.int .u8)).toArray w:=by
      have e2:=bC (P:=P) (a:=ad) (w:=w) (flat [some .u8] (r.l.R ρ)) 0 #[] (fun m u hm=>by rw[Nat.zero_add]; exact hrd.2.2.2.2 ad rfl m u hm)
      have e3:(flat [some IntKind.u8] (r.l.R ρ)).length=sn:=by rw[hrd.1]; simp
      rw[e3,hflat] at e2
      simpa[loadCells] using e2
     rw[run_bytesToString w ad sn sc _ hload,lg]
     simp[fd,Function.comp_def]
  simp[execOp,hop,hv,Sem.run_bind,hconv]
 ·exact h1.elim
theorem ux:∀{a b:List (List Int)},(∀r∈a,ar [some .u8] r=true)→(∀r∈b,ar [some .u8] r=true)→fd a=fd b→a=b:=by
 have key:∀{a b:List (List Int)},(∀r∈a,ar [some .u8] r=true)→(∀r∈b,ar [some .u8] r=true)→(a.map fun r=>UInt8.ofNat (r.getD 0 0).toNat)=(b.map fun r=>UInt8.ofNat (r.getD 0 0).toNat)→a=b:=by
  intro a
  induction a with
  | nil=>intro b _ _ h; cases b with
    | nil=>rfl
    | cons=>simp at h
  | cons x a ih=>
    intro b ha hb h
    cases b with
    | nil=>simp at h
    | cons y b=>
      simp only[List.map_cons,List.cons.injEq] at h
      have hx:=ha x List.mem_cons_self
      have hy:=hb y List.mem_cons_self
      have h1:=bT hx
      have h2:=bT hy
      have h3:=ih (fun r hr=>ha r (List.mem_cons_of_mem _ hr)) (fun r hr=>hb r (List.mem_cons_of_mem _ hr)) h.2
      match x,y,h1,h2 with
      | [u],[v],_,_=>
        have hu:inK .u8 u=true:=by simpa[ar,inCE] using hx
        have hv:inK .u8 v=true:=by simpa[ar,inCE] using hy
        rw[aO] at hu hv
        simp only[IntKind.min,IntKind.max,IntKind.signed,IntKind.bits] at hu hv
        simp at hu hv
        have h4:(UInt8.ofNat u.toNat).toNat=(UInt8.ofNat v.toNat).toNat:=by
         have:=h.1
         simp only[List.getD_cons_zero] at this
         rw[this]
        rw[UInt8.toNat_ofNat',UInt8.toNat_ofNat'] at h4
        have:u=v:=by omega
        rw[this,h3]
 intro a b ha hb h
 refine key ha hb ?_
 have:=congrArg (fun s:ByteArray=>s.data.toList) h
 simpa[fd] using this
theorem ny (hT:∀t i,(t,i)∈cx.ty→TIok P t i) {op:BinOp} (hne:op=.eql∨op=.neq) {xt yt:Nat} {x y:Operand} {kw:Kw} (hop:o.op=.binOp op xt x y yt) {a b:E} (hx:vw.ev x=some (.one (.str a))) (hy:vw.ev y=some (.one (.str b))) {i:TI} (hi:af xt cx.ty=some i) (hk:i.kd=2) (hla:a.lok kw.vk [some .u8]=true) (hlb:b.lok kw.vk [some .u8]=true)
  (h:(k {val:=.one (.bool (if op=.eql then .leq a b else bL (.leq a b)))} kw).holds sp G ρ I) (hg:Good sp cx.sm ρ kw):Sound P sp ρ G I base cx vw o k kw:=by
 have hu:=(hT _ _ (ab hi)).stg hk
 have heq:((fd (a.R ρ)).toList==(fd (b.R ρ)).toList)=(a.R ρ==b.R ρ):=by
  rw[Bool.eq_iff_iff,beq_iff_eq,beq_iff_eq,ByteArray.toList_eq,ByteArray.toList_eq]
  refine⟨fun h=>ux (E.lok_ok hg.vk a hla) (E.lok_ok hg.vk b hlb) ?_,fun h=>by rw[h]⟩
  have h2:(fd (a.R ρ)).data=(fd (b.R ρ)).data:=Array.toList_inj.1 h
  cases h3:fd (a.R ρ)
  cases h4:fd (b.R ρ)
  rw[h3,h4] at h2
  simp only at h2
  rw[h2]
 refine⟨_,kw,h,hg,.refl _,OpOk.pure fun j ac w _ hev _ _ _=>⟨.bool (if op=.eql then(a.R ρ==b.R ρ) else !(a.R ρ==b.R ρ)),?_,?_⟩⟩
 ·rcases hne with rfl | rfl<;>simp[V.den,C.den,bl,E.B]
 ·have h1:ac.eval x=.string (fd (a.R ρ)):=(Option.some.inj (hev x (by simp[hop,Op.operands]) _ hx)).symm
  have h2:ac.eval y=.string (fd (b.R ρ)):=(Option.some.inj (hev y (by simp[hop,Op.operands]) _ hy)).symm
  rcases hne with rfl | rfl<;>simp[execOp,hop,h1,h2,eqGuard,binOp,Op.stringOp,heq,Sem.run_bind]
end
end Go.Proofs.Ytghiofgomcihcaa
