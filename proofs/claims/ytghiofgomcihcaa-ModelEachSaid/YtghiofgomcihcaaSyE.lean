import Derived.Test.YtghiofgomcihcaaSyD
set_option linter.unusedVariables false
set_option linter.unusedSimpArgs false
namespace Go.Proofs.Ytghiofgomcihcaa
open Go.RowKit
section
variable {P:Program} {sp:Spec} {ρ:Env} {G:Env→E→Prop} {I:Nat→List Dt→Prop} {base:Nat} {cx:Cx} {vw:Vw} {o:Oper} {k:Eff→Kw→Tr}
def Sound (P:Program) (sp:Spec) (ρ:Env) (G:Env→E→Prop) (I:Nat→List Dt→Prop) (base:Nat) (cx:Cx) (vw:Vw) (o:Oper) (k:Eff→Kw→Tr) (kw:Kw):Prop:=
 ∃eff kw',(k eff kw').holds sp G ρ I∧Good sp cx.sm ρ kw'∧KwGe kw' kw∧OpOk P ρ base vw o eff
theorem Sound.lv {kw kw':Kw} (h:Sound P sp ρ G I base cx vw o k kw') (hl:KwGe kw' kw):Sound P sp ρ G I base cx vw o k kw:=by
 obtain⟨eff,kw1,h1,h2,h3,h4⟩:=h
 exact⟨eff,kw1,h1,h2,h3.trans hl,h4⟩
theorem qr {x:Operand} {kw:Kw} (hop:o.op=.move x∨o.op=.assign x) {v:V} (hv:vw.ev x=some v) (h:(k {val:=v} kw).holds sp G ρ I) (hg:Good sp cx.sm ρ kw):Sound P sp ρ G I base cx vw o k kw:=by
 refine⟨_,kw,h,hg,.refl _,OpOk.pure fun j a w _ hev _ _ _=>⟨a.eval x,?_,?_⟩⟩
 ·rcases hop with hop | hop<;>exact hev x (by simp[hop,Op.operands]) v hv
 ·rcases hop with hop | hop<;>simp[execOp,hop]
theorem uQ (hT:∀t i,(t,i)∈cx.ty→TIok P t i) {t:Nat} {kw:Kw} (hop:o.op=.alloc t) {i:TI} (hi:af t cx.ty=some i) (h:(k {val:=.one (.ptr vw.nid 0),al:=some (i.zero,t)} kw).holds sp G ρ I) (hg:Good sp cx.sm ρ kw):
  Sound P sp ρ G I base cx vw o k kw:=by
 refine⟨_,kw,h,hg,.refl _,fun j a w _ hev hrd hwr _ _ K Q hK=> ?_⟩
 obtain⟨z,hz,hd⟩:=(hT _ _ (ab hi)).zero
 refine bs (w':=w.alloc (.cells z.cells t)) (v:=.pointer (some ⟨w.heap.size,0,none⟩)) ?_ (hK _ {j with b:=fun b=>if b=vw.nid then some w.heap.size else j.b b} _ ?_ ?_)
 ·simp[execOp,hop,Instr.alloc,Sem.run_bind,hz,newVar,newRow,newObj,Sem.run]
 ·simp[V.den,C.den]
 ·exact⟨z.cells.toList,hd ρ j,by simp,rfl⟩
theorem aao {t:Nat} {x:Operand} {kw:Kw} (hop:o.op=.box t x) {v:V} (hv:vw.ev x=some v) (hf:v.flat=true) (h:(k {val:=.one (.ptr vw.nid 0),al:=some (v.cells,t)} kw).holds sp G ρ I) (hg:Good sp cx.sm ρ kw):
  Sound P sp ρ G I base cx vw o k kw:=by
 refine⟨_,kw,h,hg,.refl _,fun j a w _ hev hrd hwr _ _ K Q hK=> ?_⟩
 have hd:=V.cells_ok (hev x (by simp[hop,Op.operands]) v hv) hf
 refine bs (w':=w.alloc (.cells (a.eval x).cells t)) (v:=.pointer (some ⟨w.heap.size,0,none⟩)) ?_ (hK _ {j with b:=fun b=>if b=vw.nid then some w.heap.size else j.b b} _ ?_ ?_)
 ·simp[execOp,hop,Instr.box,Sem.run_bind,newVar,newRow,newObj,Sem.run]
 ·simp[V.den,C.den]
 ·exact⟨_,hd,by simp,rfl⟩
theorem eU {j:J} {b off:Nat} {v:Value} (h:(V.one (.ptr b off)).den ρ j=some v):∃kk,j.b b=some kk∧v=.pointer (some ⟨kk,off,none⟩):=by
 simp only[V.den,C.den,Option.map_eq_some_iff] at h
 obtain⟨kk,hk,rfl⟩:=h
 exact⟨kk,hk,rfl⟩
theorem bi (kk off m:Nat):(⟨kk,off,none⟩:Addr).add m=⟨kk,off+m,none⟩:=by
 unfold Addr.add
 split
 ·rename_i h; subst h; rfl
 ·rfl
theorem nq (hT:∀t i,(t,i)∈cx.ty→TIok P t i) {t:Nat} {x:Operand} {kw:Kw} (hop:o.op=.load t x) {b off:Nat} (hx:vw.ev x=some (.one (.ptr b off))) {i:TI} (hi:af t cx.ty=some i) (hagg:i.agg=true) {cs:List C} (hcs:dX vw.ld b off i.size=some cs)
  (h:(k {val:=.agg cs,rd:=bG b off i.size} kw).holds sp G ρ I) (hg:Good sp cx.sm ρ kw):Sound P sp ρ G I base cx vw o k kw:=by
 refine⟨_,kw,h,hg,.refl _,OpOk.pure fun j a w _ hev hrd _ _=> ?_⟩
 have ht:=hT _ _ (ab hi)
 obtain⟨kk,hk,he⟩:=eU (hev x (by simp[hop,Op.operands]) _ hx)
 obtain⟨vs,h1,h2⟩:=bI (P:=P) hk i.size off cs hcs w hrd ⟨kk,off,none⟩ 0 #[] (fun m=>by rw[bi]; simp)
 refine⟨.agg vs.toArray,by simp only[V.den,h1,Option.map_some],?_⟩
 simp[execOp,hop,he,Instr.loadAt,Instr.sureAddr,Sem.run_bind,loadVar,ht.agg,hagg,ht.size,loadCells,h2]
theorem nr (hT:∀t i,(t,i)∈cx.ty→TIok P t i) {t:Nat} {x:Operand} {kw:Kw} (hop:o.op=.load t x) {b off:Nat} (hx:vw.ev x=some (.one (.ptr b off))) {i:TI} (hi:af t cx.ty=some i) (hagg:¬i.agg=true) {c:C} (hc:vw.ld b off=some c)
  (h:(k {val:=.one c,rd:=[(b,off)]} kw).holds sp G ρ I) (hg:Good sp cx.sm ρ kw):Sound P sp ρ G I base cx vw o k kw:=by
 refine⟨_,kw,h,hg,.refl _,OpOk.pure fun j a w _ hev hrd _ _=> ?_⟩
 have ht:=hT _ _ (ab hi)
 obtain⟨kk,hk,he⟩:=eU (hev x (by simp[hop,Op.operands]) _ hx)
 obtain⟨k',v,hk',hv,hcell⟩:=hrd (b,off) (by simp) c hc
 simp only at hk' hcell
 rw[hk] at hk'; cases hk'
 have hagg':i.agg=false:=by simpa using hagg
 refine⟨v,hv,?_⟩
 simp[execOp,hop,he,Instr.loadAt,Instr.sureAddr,Sem.run_bind,loadVar,ht.agg,hagg',load,Sem.run,hcell]
theorem bP {j:J} {b kk:Nat} (hj:j.b b=some kk) (a:Addr):∀(cs:List C) (off i:Nat) (vs:List Value) (w:World),(∀m,a.add (i+m)=⟨kk,off+m,none⟩)→denL ρ j cs=some vs→cs.all C.solid=true→WrOk j w (bZ b off cs)→
  ∃w',lB ρ j (bZ b off cs) w w'∧(storeCells a vs i).run P w=.ok () w'
 | [],off,i,vs,w,ha,hd,hs,hw=>by
   cases hd
   exact⟨w,rfl,by simp[storeCells]⟩
 | c::cs,off,i,vs,w,ha,hd,hs,hw=>by
   simp only[denL] at hd
   cases hc:c.den ρ j with
   | none=>rw[hc] at hd; cases hd
   | some v=>
     cases hl:denL ρ j cs with
     | none=>rw[hc,hl] at hd; cases hd
     | some l=>
       rw[hc,hl] at hd; cases hd
       simp only[List.all_cons,Bool.and_eq_true] at hs
       obtain⟨k',u,hk',hu,hfr⟩:=hw (b,off,c) (by simp[bZ])
       simp only at hk' hu hfr
       rw[hj] at hk'; cases hk'
       have hw':WrOk j (w.setCell ⟨kk,off,none⟩ v) (bZ b (off+1) cs):=by
        intro p hp
        obtain⟨k2,u2,hk2,hu2,hf2⟩:=hw p (by simp[bZ]; exact .inr hp)
        by_cases he:(⟨k2,p.2.1,none⟩:Addr)=⟨kk,off,none⟩
        ·refine⟨k2,v,hk2,?_,?_⟩
         ·rw[he]; exact World.cell?_setCell_same _ _ _ (by rw[←he]; exact hu2)
         ·rw[World.frozen?_setCell]; exact hf2
        ·refine⟨k2,u2,hk2,?_,?_⟩
         ·rw[World.cell?_setCell_other _ _ _ _ (fun e=>he e.symm)]; exact hu2
         ·rw[World.frozen?_setCell]; exact hf2
       obtain⟨w',h1,h2⟩:=bP hj a cs (off+1) (i+1) l (w.setCell ⟨kk,off,none⟩ v) (fun m=>by rw[Nat.add_assoc,Nat.add_comm 1 m,ha (m+1)]; congr 1; omega) hl hs.2 hw'
       refine⟨w',⟨kk,v,hj,hc,h1⟩,?_⟩
       have ha0:=ha 0
       simp only[Nat.add_zero] at ha0
       simp only[storeCells,ha0,Sem.run_bind,run_store P w _ v _ (C.solid_ok hc hs.1),hu,hfr,Result.andThen_ok,Bool.false_eq_true,if_false]
       exact h2
theorem uD (hT:∀t i,(t,i)∈cx.ty→TIok P t i) {t:Nat} {x y:Operand} {kw:Kw} (hop:o.op=.store t x y) {b off:Nat} (hx:vw.ev x=some (.one (.ptr b off))) {v:V} (hy:vw.ev y=some v) {i:TI} (hi:af t cx.ty=some i)
  (hf:v.flat=true) (hn:Nat.beq v.cells.length i.size=true) (hs:v.cells.all C.solid=true) (h:(k {val:=.one .undef,wr:=bZ b off v.cells} kw).holds sp G ρ I) (hg:Good sp cx.sm ρ kw):Sound P sp ρ G I base cx vw o k kw:=by
 refine⟨_,kw,h,hg,.refl _,fun j a w _ hev hrd hwr _ _ K Q hK=> ?_⟩
 have ht:=hT _ _ (ab hi)
 obtain⟨kk,hk,he⟩:=eU (hev x (by simp[hop,Op.operands]) _ hx)
 have hd:=V.cells_ok (hev y (by simp[hop,Op.operands]) v hy) hf
 obtain⟨w',h1,h2⟩:=bP (P:=P) hk ⟨kk,off,none⟩ v.cells off 0 _ w (fun m=>by rw[bi]; simp) hd hs hwr
 have hsz:(a.eval y).cells.size=i.size:=by
  have:=aA hd
  rw[Array.length_toList,Nat.eq_of_beq_eq_true hn] at this
  exact this
 refine tN (w':=w') ?_ (hK _ j w' rfl ⟨rfl,w,Ext.refl w,h1⟩)
 simp[execOp,hop,he,Instr.storeAt,Instr.sureAddr,Sem.run_bind,storeVar,ht.size,hsz,h2]
theorem aa1 {j:J} {c:C} {v:Value} (hc:(∃b off,c=.ptr b off)∨(∃b off,c=.fp b off)∨(∃id esz e off,c=.ep id esz e off)) (h:(V.one c).den ρ j=some v):∃a,v=.pointer (some a):=by
 rcases hc with⟨b,off,rfl⟩ | ⟨b,off,rfl⟩ | ⟨id,esz,e,off,rfl⟩
 ·simp only[V.den,C.den,Option.map_eq_some_iff] at h
  obtain⟨kk,_,rfl⟩:=h
  exact⟨_,rfl⟩
 ·simp only[V.den,C.den,Option.map_eq_some_iff] at h
  obtain⟨kk,_,rfl⟩:=h
  exact⟨_,rfl⟩
 ·simp only[V.den,C.den,Option.bind_eq_some_iff,SV.elem,Option.map_eq_some_iff] at h
  obtain⟨s,_,a,_,rfl⟩:=h
  exact⟨_,rfl⟩
theorem cG {x:Operand} {kw:Kw} (hop:o.op=.nilCheck x) {c:C} (hx:vw.ev x=some (.one c)) (hc:((∃b off,c=.ptr b off)∨(∃b off,c=.fp b off)∨(∃id esz e off,c=.ep id esz e off))∨∃g,c=.fn g) (h:(k {val:=.one c} kw).holds sp G ρ I) (hg:Good sp cx.sm ρ kw):Sound P sp ρ G I base cx vw o k kw:=by
 refine⟨_,kw,h,hg,.refl _,OpOk.pure fun j a w _ hev _ _ _=>⟨a.eval x,hev x (by simp[hop,Op.operands]) _ hx,?_⟩⟩
 have hd:=hev x (by simp[hop,Op.operands]) _ hx
 rcases hc with hc | ⟨g,rfl⟩
 ·obtain⟨a',he⟩:=aa1 hc hd
  simp[execOp,hop,he]
 ·have he:a.eval x=.func (.func g) #[] #[]:=by
   exact(Option.some.inj hd).symm
  simp[execOp,hop,he]
theorem lJ {x:Operand} {kw:Kw} (hop:o.op=.nilCheck x) {g:Nat} {fs ps:List (Option (Bool×Nat×Nat))} (hx:vw.ev x=some (.one (.clo g fs ps))) (h:(k {val:=.one (.clo g fs ps)} kw).holds sp G ρ I) (hg:Good sp cx.sm ρ kw):Sound P sp ρ G I base cx vw o k kw:=by
 refine⟨_,kw,h,hg,.refl _,OpOk.pure fun j a w _ hev _ _ _=>⟨a.eval x,hev x (by simp[hop,Op.operands]) _ hx,?_⟩⟩
 have hd:=hev x (by simp[hop,Op.operands]) _ hx
 obtain⟨y,z,_,_,he⟩:=cC (show cloV g (bU j fs) (bU j ps)=some (a.eval x) from hd)
 simp[execOp,hop,he]
theorem qb {ev:Operand→Option V} {j:J} {a:Act}:∀{l:List Operand} {cs:List (Option (Bool×Nat×Nat))},capE ev l=some cs→(∀x∈l,∀v,ev x=some v→v.den ρ j=some (a.eval x))→bU j cs=some (l.map a.eval)
 | [],cs,h,_=>by cases h; rfl
 | x::l,cs,h,hev=>by
   have tail:=fun {ds} (hd:capE ev l=some ds)=>qb (j:=j) (a:=a) hd (fun y hy=>hev y (List.mem_cons_of_mem _ hy))
   simp only[capE] at h
   split at h
   ·rename_i b o ds hx hl
    cases h
    have h1:=hev x List.mem_cons_self _ hx
    simp only[V.den,C.den] at h1
    simp only[bU,ptrV,List.map_cons,h1,tail hl]
   ·rename_i b o ds hx hl
    cases h
    have h1:=hev x List.mem_cons_self _ hx
    simp only[V.den,C.den] at h1
    simp only[bU,ptrV,List.map_cons,h1,tail hl]
   ·rename_i ds hx hl
    cases h
    have h1:=hev x List.mem_cons_self _ hx
    simp only[V.den,C.den] at h1
    simp only[bU,ptrV,List.map_cons,h1,tail hl]
   ·cases h
theorem np {g:Nat} {fs ps:Array Operand} {kw:Kw} (hop:o.op=.makeFunc (.func g) fs ps) {x y:List (Option (Bool×Nat×Nat))} (hx:capE vw.ev fs.toList=some x) (hy:capE vw.ev ps.toList=some y) (h:(k {val:=.one (.clo g x y)} kw).holds sp G ρ I) (hg:Good sp cx.sm ρ kw):Sound P sp ρ G I base cx vw o k kw:=by
 refine⟨_,kw,h,hg,.refl _,OpOk.pure fun j a w _ hev _ _ _=> ?_⟩
 have h1:=qb (ρ:=ρ) (j:=j) (a:=a) hx (fun z hz=>hev z (by simp[hop,Op.operands]; exact .inl (by simpa using hz)))
 have h2:=qb (ρ:=ρ) (j:=j) (a:=a) hy (fun z hz=>hev z (by simp[hop,Op.operands]; exact .inr (by simpa using hz)))
 refine⟨.func (.func g) (fs.map a.eval) (ps.map a.eval),?_,?_⟩
 ·simp only[V.den,C.den,h1,h2,cloV]
  have e:∀(q:Array Operand),(q.toList.map a.eval).toArray=q.map a.eval:=fun q=>by rw[←Array.toList_map,Array.toArray_toList]
  rw[e,e]
 ·simp[execOp,hop,Instr.makeFunc,Sem.run_bind]
theorem aQ {j:J} {kd:IntKind} {e:E} {v:Value} (h:(V.one (.int kd e)).den ρ j=some v):v=.int kd (e.I ρ):=by
 exact(Option.some.inj h).symm
theorem ez {j:J} {e:E} {v:Value} (h:(V.one (.bool e)).den ρ j=some v):v=.bool (e.B ρ):=by
 exact(Option.some.inj h).symm
theorem uC {op:UnOp} {t:Nat} {x:Operand} {kw:Kw} (hop:o.op=.unOp op t x) {v:V} (hv:vw.ev x=some v)
  (h:(match(generalizing:=false) op,v with
   | .not,.one (.bool e)=>k {val:=.one (.bool (bL e))} kw
   | .neg,.one (.int kd e)=>k {val:=.one (.int kd (eg .sub kd (.lit 0) e))} kw
   | .xor,.one (.int kd e)=>k {val:=.one (.int kd (eg .xor kd (.lit (if kd.signed then -1 else kd.max)) e))} kw
   | _,_=>.stuck 10).holds sp G ρ I) (hg:Good sp cx.sm ρ kw):Sound P sp ρ G I base cx vw o k kw:=by
 split at h
 ·rename_i e
  refine⟨_,kw,h,hg,.refl _,OpOk.pure fun j a w _ hev _ _ _=>⟨.bool (!e.B ρ),by simp[V.den,C.den,bl],?_⟩⟩
  rw[show execOp a.eval o=_ from by simp only[execOp,hop]; rfl]
  simp[ez (hev x (by simp[hop,Op.operands]) _ hv),Op.unary,Sem.run_bind]
 ·rename_i kd e
  refine⟨_,kw,h,hg,.refl _,OpOk.pure fun j a w _ hev _ _ _=>⟨.int kd (kd.wrap (0-e.I ρ)),by simp[V.den,C.den,mt,opI,E.I],?_⟩⟩
  simp[execOp,hop,aQ (hev x (by simp[hop,Op.operands]) _ hv),Op.unary,Op.intArith,Sem.run_bind]
 ·rename_i kd e
  refine⟨_,kw,h,hg,.refl _,OpOk.pure fun j a w _ hev _ _ _=>⟨.int kd (bits .xor kd (if kd.signed then -1 else kd.max) (e.I ρ)),by simp[V.den,C.den,mt,opI,E.I],?_⟩⟩
  simp[execOp,hop,aQ (hev x (by simp[hop,Op.operands]) _ hv),Op.unary,intBits_xor,Sem.run_bind]
 ·cases h
theorem jg {kd:IntKind} {z:Int} (h:inK kd z=true):kd.wrap z=z:=by
 rw[aO] at h
 cases kd<;>simp only[IntKind.min,IntKind.max,IntKind.wrap,IntKind.bits,IntKind.signed] at * <;>simp at * <;>(try split)<;>omega
theorem xQ (hT:∀t i,(t,i)∈cx.ty→TIok P t i) {s d:Nat} {x:Operand} {kw:Kw} (hop:o.op=.convert s d x) {k0:IntKind} {e:E} (hx:vw.ev x=some (.one (.int k0 e))) {i is:TI} (hi:af d cx.ty=some i) (his:af s cx.ty=some is) {kd:IntKind} (hk:i.ik=some kd)
  (h:(k {val:=.one (.int kd (if e.rng kw.vk kd then e else rH kd e))} kw).holds sp G ρ I) (hg:Good sp cx.sm ρ kw):Sound P sp ρ G I base cx vw o k kw:=by
 have hd:=(hT _ _ (ab hi)).ik kd hk
 obtain⟨ds,hs⟩:=(hT _ _ (ab his)).und
 refine⟨_,kw,h,hg,.refl _,OpOk.pure fun j a w _ hev _ _ _=>⟨.int kd (kd.wrap (e.I ρ)),?_,?_⟩⟩
 ·split
  ·rename_i hr
   simp[V.den,C.den,jg (E.rng_ok hg.vk e hr)]
  ·simp[V.den,C.den,yL]
 ·simp[execOp,hop,aQ (hev x (by simp[hop,Op.operands]) _ hx),convert,run_underlying hs,run_underlying hd,Conv.intToInt,Sem.run_bind]
theorem cf (hT:∀t i,(t,i)∈cx.ty→TIok P t i) {s f:Nat} {x:Operand} {kw:Kw} (hop:o.op=.fieldAddr s x f) {c c':C} (hx:vw.ev x=some (.one c)) {i:TI} (hi:af s cx.ty=some i) {fo ft:Nat} (hf:i.fields[f]? =some (fo,ft))
  (hm:∀j v,c.den ρ j=some v→∃a,v=.pointer (some a)∧c'.den ρ j=some (.pointer (some (a.add fo)))) (h:(k {val:=.one c'} kw).holds sp G ρ I) (hg:Good sp cx.sm ρ kw):Sound P sp ρ G I base cx vw o k kw:=by
 have ht:=hT _ _ (ab hi)
 refine⟨_,kw,h,hg,.refl _,OpOk.pure fun j a w _ hev _ _ _=> ?_⟩
 obtain⟨p,he,hd⟩:=hm j _ (hev x (by simp[hop,Op.operands]) _ hx)
 refine⟨_,hd,?_⟩
 simp[execOp,hop,he,ht.fieldAt f fo ft hf,Sem.run_bind]
theorem aX (a:Addr) (m n:Nat):(a.add m).add n=a.add (m+n):=by
 unfold Addr.add
 by_cases hm:m=0
 ·subst hm; simp
 ·by_cases hn:n=0
  ·subst hn; simp
  ·simp[hm,hn,Nat.add_assoc]
theorem oy {j:J} {b off fo:Nat} {v:Value} (h:(C.ptr b off).den ρ j=some v):∃a,v=.pointer (some a)∧(C.ptr b (off+fo)).den ρ j=some (.pointer (some (a.add fo))):=by
 simp only[C.den,Option.map_eq_some_iff] at h
 obtain⟨kk,hk,rfl⟩:=h
 exact⟨_,rfl,by simp[C.den,hk,bi]⟩
theorem rF {j:J} {b off fo:Nat} {v:Value} (h:(C.fp b off).den ρ j=some v):∃a,v=.pointer (some a)∧(C.fp b (off+fo)).den ρ j=some (.pointer (some (a.add fo))):=by
 simp only[C.den,Option.map_eq_some_iff] at h
 obtain⟨kk,hk,rfl⟩:=h
 exact⟨_,rfl,by simp[C.den,hk,bi]⟩
theorem rG {j:J} {id esz:Nat} {e:E} {off fo:Nat} {v:Value} (h:(C.ep id esz e off).den ρ j=some v):∃a,v=.pointer (some a)∧(C.ep id esz e (off+fo)).den ρ j=some (.pointer (some (a.add fo))):=by
 simp only[C.den,Option.bind_eq_some_iff,SV.elem,Option.map_eq_some_iff] at h
 obtain⟨s,hs,a,ha,rfl⟩:=h
 exact⟨_,rfl,by simp[C.den,hs,SV.elem,ha,aX,Nat.add_assoc]⟩
theorem uJ (hT:∀t i,(t,i)∈cx.ty→TIok P t i) {s f:Nat} {x:Operand} {kw:Kw} (hop:o.op=.field s x f) {cs:List C} (hx:vw.ev x=some (.agg cs)) {i:TI} (hi:af s cx.ty=some i) {fo ft:Nat} (hf:i.fields[f]? =some (fo,ft)) {v:V} (hp:sV cx ft cs fo=some v)
  (h:(k {val:=v} kw).holds sp G ρ I) (hg:Good sp cx.sm ρ kw):Sound P sp ρ G I base cx vw o k kw:=by
 have ht:=hT _ _ (ab hi)
 refine⟨_,kw,h,hg,.refl _,OpOk.pure fun j a w _ hev _ _ _=> ?_⟩
 have hd:=hev x (by simp[hop,Op.operands]) _ hx
 simp only[V.den,Option.map_eq_some_iff] at hd
 obtain⟨vs,hvs,he⟩:=hd
 obtain⟨u,hu,hr⟩:=wk hT hp hvs w
 refine⟨u,hu,?_⟩
 simp[execOp,hop,←he,ht.field f fo ft hf,hr,Sem.run_bind]
theorem ji {x:Operand} {n:Nat} {kw:Kw} (hop:o.op=.extract x n) {vs:List (Bool×List C)} (hx:vw.ev x=some (.tup vs)) {p:Bool×List C} (hp:vs[n]? =some p) {v:V} (hv:(∃cs,p=(true,cs)∧v=.agg cs)∨∃c,p=(false,[c])∧v=.one c)
  (h:(k {val:=v} kw).holds sp G ρ I) (hg:Good sp cx.sm ρ kw):Sound P sp ρ G I base cx vw o k kw:=by
 refine⟨_,kw,h,hg,.refl _,OpOk.pure fun j a w _ hev _ _ _=> ?_⟩
 have hd:=hev x (by simp[hop,Op.operands]) _ hx
 simp only[V.den,Option.map_eq_some_iff] at hd
 obtain⟨us,hus,he⟩:=hd
 obtain⟨u,hu,hr⟩:=oP hus n p hp
 refine⟨u,?_,?_⟩
 ·rcases hv with⟨cs,rfl,rfl⟩ | ⟨c,rfl,rfl⟩<;>exact hr
 ·simp[execOp,hop,←he,Instr.extract,hu,Sem.run_bind]
theorem dE {ev:Operand→Option V} {j:J} {a:Act}:∀{l:List Operand} {vs:List V},evL ev l=some vs→(∀x∈l,∀v,ev x=some v→v.den ρ j=some (a.eval x))→(∀(i:Nat) x u,vs[i]? =some x→(l.map a.eval)[i]? =some u→x.den ρ j=some u)∧(l.map a.eval).length=vs.length
 | [],vs,h,hev=>by cases h; exact⟨fun i x u hx=>by simp at hx,rfl⟩
 | x::l,vs,h,hev=>by
   simp only[evL] at h
   cases hc:ev x with
   | none=>rw[hc] at h; cases h
   | some v=>
     cases hl:evL ev l with
     | none=>rw[hc,hl] at h; cases h
     | some us=>
       rw[hc,hl] at h; cases h
       obtain⟨h1,h2⟩:=dE hl (fun y hy=>hev y (List.mem_cons_of_mem _ hy))
       refine⟨fun i y u hy hu=> ?_,by simp[h2]⟩
       cases i with
       | zero=>
         simp at hy hu
         subst hy hu
         exact hev x List.mem_cons_self v hc
       | succ i=>exact h1 i y u (by simpa using hy) (by simpa using hu)
end
end Go.Proofs.Ytghiofgomcihcaa
