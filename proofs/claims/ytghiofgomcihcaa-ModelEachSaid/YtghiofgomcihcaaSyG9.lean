import Derived.Test.YtghiofgomcihcaaSyG8
set_option linter.unusedVariables false
set_option linter.unusedSimpArgs false
namespace Go.Proofs.Ytghiofgomcihcaa
open Go.RowKit
theorem RdRow.kept {w w':World} {esz:Nat} {s:SV} {xs:List Value} (h:RdRow w esz s xs) (hb:∀k,s.blk false=some k→w'.heap[k]? =w.heap[k]?):RdRow w' esz s xs:=by
 obtain⟨h1,h2,h3,h4,h5⟩:=h
 refine⟨h1,h2,h3,h4,fun a ha i u hu=> ?_⟩
 have hc:s.c≠0:=fun hc=>by
  have hlt:=(List.getElem?_eq_some_iff.1 hu).1
  have:s.n=0:=by omega
  rw[h1,this] at hlt
  omega
 have:=h5 a ha i u hu
 have hblk:(a.add i).block=a.block:=by unfold Addr.add; split<;>rfl
 have he:w'.heap[(a.add i).block]? =w.heap[(a.add i).block]? :=by
  rw[hblk]
  exact hb a.block (kx hc (by simp[SV.v,ha,Value.ownBlock]))
 rw[World.cell?_of_block he]; exact this
theorem lr:∀{L:List (List Int)} {ins:List SV} {i:Nat} {row:List Int} {x:SV},L[i]? =some row→ins[i]? =some x→∀c,c<3→(bW L ins)[i*3+c]? =(bK row x)[c]?
 | r::L,y::ins,0,row,x,h1,h2,c,hc=>by
   simp only[List.getElem?_cons_zero,Option.some.injEq] at h1 h2
   subst h1 h2
   simp only[bW,Nat.zero_mul,Nat.zero_add]
   rw[List.getElem?_append_left (by simpa[bK] using hc)]
 | r::L,y::ins,i+1,row,x,h1,h2,c,hc=>by
   have:=lr (L:=L) (ins:=ins) (i:=i) (by simpa using h1) (by simpa using h2) c hc
   simp only[bW]
   rw[List.getElem?_append_right (by simp only[bK,List.length_cons,List.length_nil]; omega),←this]
   congr 1
   simp only[bK,List.length_cons,List.length_nil]
   omega
 | [],_,_,_,_,h,_,_,_=>by simp at h
 | _::_,[],_,_,_,_,h,_,_=>by simp at h
theorem gr:∀{L:List (List Int)} {ins:List SV},ins.length=L.length→∀(L':List (List Int)) (ins':List SV),bW L ins++bW L' ins'=bW (L++L') (ins++ins')
 | [],[],_,L',ins'=>rfl
 | r::L,x::ins,h,L',ins'=>by
   simp only[bW,List.cons_append,List.append_assoc,gr (L:=L) (ins:=ins) (by simpa using h) L' ins']
 | [],_::_,h,_,_=>by cases h
 | _::_,[],h,_,_=>by cases h
theorem lq:∀{L:List (List Int)} {ins:List SV},∀u∈bW L ins,u.oneCell'=true
 | r::L,x::ins,u,hu=>by
   simp only[bW,List.mem_append] at hu
   rcases hu with hu | hu
   ·simp only[bK,List.mem_cons,List.not_mem_nil,or_false] at hu
    rcases hu with rfl | rfl | rfl<;>rfl
   ·exact lq u hu
 | [],_,u,hu=>by cases hu
 | _::_,[],u,hu=>by cases hu
theorem ql:∀{L:List (List Int)},(∀r∈L,ar [some .u64] r=true)→∃xs:List Int,L=xs.map fun x=>[x]
 | [],_=>⟨[],rfl⟩
 | r::L,h=>by
   obtain⟨xs,rfl⟩:=ql (fun q hq=>h q (List.mem_cons_of_mem _ hq))
   have h1:=h r List.mem_cons_self
   match r,h1 with
   | [x],_=>exact⟨x::xs,rfl⟩
   | x::y::l,h1=>simp[ar] at h1
def evA (l:E):E:=.cons (oB l (.lit 0) 0) (.cons (oB l (.lit 1) 0) (.cons (oB l (.lit 2) 0) (.cons (oB l (.lit 3) 0) (.cons (oB l (.lit 4) 0) .nil))))
def evE (vk:List VK) (e1 e2 l:E):E:=.cons e1 (.cons e2 (.cons (lenE vk l) (evA l)))
theorem ac8 {ρ:Env} {vk:List VK} {e1 e2 l:E} (hl:(l.R ρ).length≤maxLen):(evE vk e1 e2 l).L ρ=[e1.I ρ,e2.I ρ,((l.R ρ).length:Int),gt (l.R ρ) 0 0,gt (l.R ρ) 1 0,gt (l.R ρ) 2 0,gt (l.R ρ) 3 0,gt (l.R ρ) 4 0]:=by
 simp only[evE,evA,E.L,wC,E.I]
 rw[gY (kw:=⟨[],[],vk,0⟩) hl]
theorem abH {L:List (List Int)} (h:∀r∈L,ar [some .u64] r=true) (h5:L.length≤5) (a b:Int):lu [a,b,(L.length:Int),gt L 0 0,gt L 1 0,gt L 2 0,gt L 3 0,gt L 4 0]=flat [some .u64] L∧([a,b,(L.length:Int),gt L 0 0,gt L 1 0,gt L 2 0,gt L 3 0,gt L 4 0].drop 3).drop L.length=List.replicate (5-L.length) 0:=by
 obtain⟨xs,rfl⟩:=ql h
 match xs,h5 with
 | [],_=>exact⟨rfl,rfl⟩
 | [x],_=>exact⟨rfl,rfl⟩
 | [x,y],_=>exact⟨rfl,rfl⟩
 | [x,y,z],_=>exact⟨rfl,rfl⟩
 | [x,y,z,u],_=>exact⟨rfl,rfl⟩
 | [x,y,z,u,v],_=>exact⟨rfl,rfl⟩
 | _::_::_::_::_::_::_,h=>simp at h
def ig (l e:E):E:=.ltake (.lapp (.lapp (.lapp (.lapp (.lapp .lnil (.cons (.get l e 3) .nil)) (.cons (.get l e 4) .nil)) (.cons (.get l e 5) .nil)) (.cons (.get l e 6) .nil)) (.cons (.get l e 7) .nil)) (.get l e 2)
theorem acE {row:List Int} (h:ar evKs row=true):∃a b n x0 x1 x2 x3 x4,row=[a,b,n,x0,x1,x2,x3,x4]∧inK .i64 a=true∧inK .u64 b=true∧inK .i64 n=true∧inK .u64 x0=true∧inK .u64 x1=true∧inK .u64 x2=true∧inK .u64 x3=true∧inK .u64 x4=true:=by
 have step:∀{k:IntKind} {ks:List CE} {q:List Int},ar (some k::ks) q=true→∃x q',q=x::q'∧inK k x=true∧ar ks q'=true:=fun {k ks q} h=>by
  cases q with
  | nil=>cases h
  | cons x q=>exact⟨x,q,rfl,by simpa[ar,inCE] using h⟩
 obtain⟨a,q,rfl,h0,h⟩:=step h
 obtain⟨b,q,rfl,h1,h⟩:=step h
 obtain⟨n,q,rfl,h2,h⟩:=step h
 obtain⟨x0,q,rfl,h3,h⟩:=step h
 obtain⟨x1,q,rfl,h4,h⟩:=step h
 obtain⟨x2,q,rfl,h5,h⟩:=step h
 obtain⟨x3,q,rfl,h6,h⟩:=step h
 obtain⟨x4,q,rfl,h7,h⟩:=step h
 cases q with
 | nil=>exact⟨a,b,n,x0,x1,x2,x3,x4,rfl,h0,h1,h2,h3,h4,h5,h6,h7⟩
 | cons x q=>cases h
theorem abV {ρ:Env} {l e:E} {row:List Int} (h:(l.R ρ)[(e.I ρ).toNat]? =some row) (hr:ar evKs row=true) {n:Nat} (hn:(n:Int)=row.getD 2 0) (h5:n≤5):
  ((ig l e).R ρ).length=n∧flat [some .u64] ((ig l e).R ρ)=lu row∧∀r∈(ig l e).R ρ,ar [some .u64] r=true:=by
 obtain⟨a,b,m,x0,x1,x2,x3,x4,rfl,_,_,_,g0,g1,g2,g3,g4⟩:=acE hr
 have hm:m=(n:Int):=hn.symm
 subst hm
 have hg:∀c,gt (l.R ρ) (e.I ρ) c=[a,b,(n:Int),x0,x1,x2,x3,x4].getD c 0:=fun c=>by
  unfold gt
  rw[show(l.R ρ).getD (e.I ρ).toNat []=[a,b,(n:Int),x0,x1,x2,x3,x4] from by rw[List.getD_eq_getElem?_getD,h]; rfl]
 have hR:(ig l e).R ρ=[[x0],[x1],[x2],[x3],[x4]].take n:=by
  simp only[ig,E.R,E.L,E.I,hg]
  rfl
 rw[hR]
 refine⟨by rw[List.length_take]; simp only[List.length_cons,List.length_nil]; omega,?_,fun r hr=> ?_⟩
 ·have e1:lu [a,b,(n:Int),x0,x1,x2,x3,x4]=(([x0,x1,x2,x3,x4]:List Int).take n).map fun x=>.int .u64 x:=by simp[lu]
  have e2:([[x0],[x1],[x2],[x3],[x4]]:List (List Int))=([x0,x1,x2,x3,x4]:List Int).map fun x=>[x]:=rfl
  rw[e1,e2,←List.map_take]
  generalize ([x0,x1,x2,x3,x4]:List Int).take n=q
  induction q with
  | nil=>rfl
  | cons y q ih=>simp only[List.map_cons,bj,ih]; rfl
 ·have:=List.mem_of_mem_take hr
  simp only[List.mem_cons,List.not_mem_nil,or_false] at this
  rcases this with rfl | rfl | rfl | rfl | rfl<;>simp[ar,inCE, *]
def Vw.evw (vw:Vw) (id:Nat):Option RowOb:=match vw.rw id with
 | some r=>if r.kd.isEv then some r else none
 | none=>none
theorem Vw.evw_some {vw:Vw} {id:Nat} {r:RowOb} (h:vw.evw id=some r):vw.rw id=some r∧r.kd=.ev:=by
 unfold Vw.evw at h
 split at h
 ·rename_i q hq
  split at h
  ·rename_i hk
   cases h
   exact⟨hq,RK.isEv_eq hk⟩
  ·cases h
 ·cases h
def acM (cx:Cx) (t:Nat):Nat:=match af t cx.ty with
 | some i=>match i.fields[1]? with
   | some (_,st)=>match af st cx.ty with
     | some i2=>i2.sle.getD 0
     | none=>0
   | none=>0
 | none=>0
section
variable {P:Program} {sp:Spec} {ρ:Env} {G:Env→E→Prop} {I:Nat→List Dt→Prop} {base:Nat} {cx:Cx} {vw:Vw} {o:Oper} {k:Eff→Kw→Tr}
theorem RrOk.ev {j:J} {w:World} {rr:List Nat} (h:RrOk ρ base j w vw.rw rr) (id:Nat) (hid:id∈rr) (r:RowOb) (hr:vw.evw id=some r):∃s,j.s id=some s∧EvOk ρ base w s r∧Zin j s∧∀p∈s.z,w.heap[p.1]? =some p.2:=by
 obtain⟨h1,h2⟩:=Vw.evw_some hr
 obtain⟨s,h3,h4,h5⟩:=h id hid r h1
 exact⟨s,h3,h4.2.2 h2,h5⟩
theorem nV (hT:∀t i,(t,i)∈cx.ty→TIok P t i) {t n:Nat} {ps:Array (Nat×Operand)} (hop:o.op=.buildSlice t n ps) {parts:List (Nat×V)} (hps:evP vw.ev ps.toList=some parts) {i:TI} (hi:af t cx.ty=some i) {et:Nat} (ha:i.sle=some et) {ie:TI} (hie:af et cx.ty=some ie)
  {cs:List C} (hfill:kF (fun m=>some (m*ie.size,ie.size)) ((List.replicate n ie.zero).flatten) parts=some cs) (hbig:n*ie.size≤16777216) (hpos:0<n*ie.size) {j:J} {a:Act} {w:World} (hev:∀x∈o.op.operands.toList,∀v,vw.ev x=some v→v.den ρ j=some (a.eval x)):
  ∃cells:Array Value,denL ρ j cs=some cells.toList∧(execOp a.eval o).run P w=.ok (.value (.slice (some ⟨w.heap.size,0,none⟩) n n)) (w.alloc (.cells cells et)):=by
 obtain⟨h1,h2⟩:=rW (a:=a) (j:=j) hps (fun x hx=>hev x (by
  simp only[hop,Op.operands]
  simpa using hx))
 have h3:(ps.map fun p=>(p.1,a.eval p.2)).toList=ps.toList.map fun p=>(p.1,a.eval p.2):=Array.toList_map ..
 have hx:execOp a.eval o=(do let v ←Instr.buildSlice t n (ps.map fun p=>(p.1,a.eval p.2)); pure (.value v)):=by simp only[execOp,hop]
 have hu:=(hT _ _ (ab hi)).sle et ha
 have hte:=hT _ _ (ab hie)
 have hsz:=hte.size
 obtain⟨inf,z,hinf,hisz,_,hz,hzl,hzd⟩:=hte.info
 have hzs:z.cells.size=ie.size:=by simpa using hzl
 have zer:denL ρ j ((List.replicate n ie.zero).flatten)=some (madeCells z.cells (n*ie.size)).toList:=by
  rw[←hzs,mw]
  have:∀n,denL ρ j ((List.replicate n ie.zero).flatten)=some ((List.replicate n z.cells.toList).flatten):=by
   intro n
   induction n with
   | zero=>rfl
   | succ n ih=>
     simp only[List.replicate_succ,List.flatten_cons]
     exact dx (hzd ρ j) ih
  exact this n
 obtain⟨cells,h4,h5⟩:=kl (j:=j) parts _ cs _ (madeCells z.cells (n*ie.size)) hfill zer h1 h2
 refine⟨cells,h5,?_⟩
 rw[hx]
 have hbig':¬(16777216<n*ie.size):=by omega
 have hn0:¬n*ie.size=0:=by omega
 simp only[madeCells] at h4
 simp[Instr.buildSlice,Sem.run_bind,run_underlying hu,hsz,h3,hbig',hn0,zeroValue,typeInfo,hinf,hz,h4,newRow]
theorem uK (hT:∀t i,(t,i)∈cx.ty→TIok P t i) {t:Nat} {ps:Array (Nat×Operand)} {kw:Kw} (hop:o.op=.buildSlice t 1 ps) {parts:List (Nat×V)} (hps:evP vw.ev ps.toList=some parts) {i:TI} (hi:af t cx.ty=some i) {et:Nat} (ha:i.sle=some et) {ie:TI} (hie:af et cx.ty=some ie)
  {e1 e2:E} {id:Nat} (hfill:kF (fun m=>some (m*ie.size,ie.size)) ((List.replicate 1 ie.zero).flatten) parts=some [.int .i64 e1,.sl id,.int .u64 e2]) (h3:ie.size=3) {r:RowOb} (hr:vw.sw id=some r) (hown:r.own=true) (hks:r.ks=[some .u64]) (hrok:(evE kw.vk e1 e2 r.l).rok kw.vk evKs=true)
  (h:(decK (mkLt (.lit 5) (aY r.l)) (fun b kw'=>if b then .stuck 220 else k {val:=.one (.sl vw.nid),rr:=[id],re:=.frz id {r with own:=false} ⟨evKs,et,.lapp .lnil (evE kw.vk e1 e2 r.l),true,.ev⟩} kw') kw).holds sp G ρ I) (hg:Good sp cx.sm ρ kw):Sound P sp ρ G I base cx vw o k kw:=by
 obtain⟨kw1,h1,g1,_,l1⟩:=ak _ _ _ h hg
 rw[aG,aU] at h1
 split at h1
 ·exact h1.elim
 rename_i h5
 have h5:(r.l.R ρ).length≤5:=by
  have:¬(5:Int)<((r.l.R ρ).length:Int):=of_decide_eq_false (Bool.eq_false_iff.2 h5)
  omega
 refine⟨_,kw1,h1,g1,l1,fun j a w hb hev hrd hwr hrr hfb K Q hK=> ?_⟩
 obtain⟨cells,hd,hrun⟩:=nV (ρ:=ρ) (w:=w) hT hop hps hi ha hie hfill (by omega) (by omega) hev
 obtain⟨s,hs,hok⟩:=hrr.sl id (by simp) r hr
 have hrows:∀q∈r.l.R ρ,ar [some .u64] q=true:=by have:=hok.rows.row; rw[hks] at this; exact this
 have hL:=ac8 (ρ:=ρ) (vk:=kw.vk) (e1:=e1) (e2:=e2) (l:=r.l) hok.rows.len
 obtain⟨f1,f2⟩:=abH hrows h5 (e1.I ρ) (e2.I ρ)
 have hrow:ar evKs ((evE kw.vk e1 e2 r.l).L ρ)=true:=E.rok_ok hg.vk hrok
 have hc:cells.toList=bW [(evE kw.vk e1 e2 r.l).L ρ] [s]:=by
  simp only[denL,C.den,hs,Option.map_some,Option.some.injEq] at hd
  rw[←hd,hL]
  rfl
 have hown':=hok.own hown
 obtain⟨z,hz1,hz2,hz3⟩:∃z:List (Nat×Obj),z.length≤1∧(∀p∈z,w.heap[p.1]? =some p.2∧isCl p.2=true∧s.v.ownBlock=some p.1)∧∀k,s.v.ownBlock=some k→∃o,(k,o)∈z:=by
  rcases hown'.2 with⟨hv,_⟩ | ⟨g,cap,cur,hv,hbg,hh,_⟩
  ·exact⟨[],by simp,fun p hp=>(by cases hp),fun k hk=>by rw[hv] at hk; cases hk⟩
  ·refine⟨[(g,.cells cur r.ty (0,0))],by simp,fun p hp=> ?_,fun k hk=> ?_⟩
   ·rw[List.mem_singleton.1 hp]
    exact⟨hh,rfl,by rw[hv]; rfl⟩
   ·rw[hv] at hk; cases hk
    exact⟨_,List.mem_singleton.2 rfl⟩
 have hei:EiOk z ((evE kw.vk e1 e2 r.l).L ρ) s:=by
  rw[hL]
  refine⟨by rw[hok.n]; rfl,by rw[hok.n]; exact h5,by rw[hok.n]; exact f2,fun w' hw=> ?_,fun k hk=>hz3 k (ap hk)⟩
  have hrd:=hok.rd
  rw[hks] at hrd
  rw[f1]
  refine RdRow.kept hrd (fun k hk=> ?_)
  obtain⟨o,ho⟩:=hz3 k (ap hk)
  rw[hw _ ho,(hz2 _ ho).1]
 have hx:Ext w (w.alloc (.cells cells et)):=Ext.of_grown (World.grownBy_alloc w _ none)
 have own:=World.ownsRow_lit (base:=w.heap.size) (e:=et) (size:=3) w cells 1 (Nat.le_refl _) (by simp[maxLen]) (by rw[←Array.length_toList,hc]; rfl)
 refine bs (w':=w.alloc (.cells cells et)) (v:=(⟨some ⟨w.heap.size,0,none⟩,1,1,z⟩:SV).v) hrun (hK _ _ _ ?_ ⟨hx,s,⟨some ⟨w.heap.size,0,none⟩,1,1,z⟩,hs,SlOk.row ⟨hok.n,hok.rows,hok.pos,fun k hk=>hok.lt k (by rw[hown]; exact ba hk),fun ho=>(by cases ho),hok.rd⟩ (Vw.sw_some hr).2,?_,fun k hk=>(by cases hk; exact Nat.le_refl _),hz1,hz2,rfl⟩)
 ·have e1:((j.putS vw.nid ⟨some ⟨w.heap.size,0,none⟩,1,1,z⟩).addz z).s=(j.putS vw.nid ⟨some ⟨w.heap.size,0,none⟩,1,1,z⟩).s:=by cases z<;>rfl
  simp only[V.den,C.den]
  rw[e1]
  simp[J.putS]
 ·rw[hc] at own
  refine EvOk.row ⟨rfl,?_,⟨fun q hq=> ?_,by simp[E.R,maxLen]⟩,fun k hk=> ?_,fun _ p hp=> ?_,[s],?_,fun _=> ?_,?_,fun i row x hi' hx'=> ?_⟩ rfl
  ·simp[E.R]
  ·simp only[E.R,List.nil_append,List.mem_singleton] at hq
   rw[hq]; exact hrow
  ·have:=(kS (s:=⟨some ⟨w.heap.size,0,none⟩,1,1,z⟩) own k (ap hk)).1
   exact this
  ·exact(kS hown' _ (hz2 p hp).2.2).2
  ·simp[E.R]
  ·simp only[E.R,List.nil_append]; exact own.mono hb
  ·simp only[E.R,List.nil_append]; exact jP (s:=⟨some ⟨w.heap.size,0,none⟩,1,1,z⟩) own
  ·cases i with
   | zero=>
     simp only[E.R,List.nil_append,List.getElem?_cons_zero,Option.some.injEq] at hi' hx'
     rw[←hi',←hx']; exact hei
   | succ i=>simp at hx'
theorem o5 (hT:∀t i,(t,i)∈cx.ty→TIok P t i) {t:Nat} {x y:Operand} {kw:Kw} (hop:o.op=.indexAddr t x y) {id:Nat} (hx:vw.ev x=some (.one (.sl id))) {k0:IntKind} {e:E} (hy:vw.ev y=some (.one (.int k0 e))) {i:TI} (hi:af t cx.ty=some i)
  {et:Nat} (ha:i.sle=some et) {ie:TI} (hie:af et cx.ty=some ie) {r:RowOb} (hr:vw.evw id=some r) (h3:ie.size=3)
  (h:(decK (inB e r.l) (fun b kw=>if b then k {val:=.one (.ep id 3 e 0),rr:=[id]} kw else .panic) kw).holds sp G ρ I) (hg:Good sp cx.sm ρ kw):Sound P sp ρ G I base cx vw o k kw:=by
 obtain⟨kw',h1,g1,_,l1⟩:=ak _ _ _ h hg
 rw[th] at h1
 split at h1
 ·rename_i hb
  simp only[Bool.and_eq_true,decide_eq_true_eq] at hb
  refine⟨_,kw',h1,g1,l1,OpOk.pure fun j a w _ hev _ hrr _=> ?_⟩
  obtain⟨s,hs,hok,_⟩:=hrr.ev id (by simp) r hr
  have hd:=hev x (by simp[hop,Op.operands]) _ hx
  simp only[V.den,C.den,hs,Option.map_some,Option.some.injEq] at hd
  have hq:=aQ (hev y (by simp[hop,Op.operands]) _ hy)
  have hu:=(hT _ _ (ab hi)).sle et ha
  have hsz:=(hT _ _ (ab hie)).size
  obtain⟨sa,sn,sc,sz⟩:=s
  have hn:=hok.n
  simp only at hn
  obtain⟨ins,_,_,hrd,_⟩:=hok.at'
  cases sa with
  | none=>have:=(hrd.2.2.2.1 rfl).1; simp only at this; omega
  | some p=>
    refine⟨.pointer (some (p.add ((e.I ρ).toNat*3+0))),by simp[V.den,C.den,hs,SV.elem],?_⟩
    have hlt:(0:Int)≤e.I ρ∧e.I ρ<(sn:Int):=by omega
    simp[execOp,hop,←hd,SV.v,hq,Instr.indexAt,run_underlying hu,asIntOf,hlt,hsz,h3,Sem.run_bind]
 ·exact h1.elim
theorem uL (hT:∀t i,(t,i)∈cx.ty→TIok P t i) {c:Call} {kw:Kw} (hop:o.op=.call c) (hc:c.callee=.builtin .len) {id t:Nat} (hl:evL vw.ev c.args.toList=some [.one (.sl id)]) (hty:c.argTypes.toList=[t]) {i:TI} (hi:af t cx.ty=some i) (hsl:i.sle.isSome=true) {r:RowOb} (hr:vw.evw id=some r)
  (h:(k {val:=.one (.int .i64 (lenE kw.vk r.l)),rr:=[id]} kw).holds sp G ρ I) (hg:Good sp cx.sm ρ kw):Sound P sp ρ G I base cx vw o k kw:=by
 refine⟨_,kw,h,hg,.refl _,OpOk.pure fun j a w _ hev _ hrr _=> ?_⟩
 obtain⟨s,hs,hok,_⟩:=hrr.ev id (by simp) r hr
 obtain⟨h1,h2⟩:=dE (j:=j) (a:=a) hl (fun x hx=>hev x (by simp[hop,Op.operands,Call.operands]; exact .inr (by simpa using hx)))
 have h3:c.args.map a.eval = #[s.v]:=by
  have:c.args.toList.map a.eval=[s.v]:=by
   match hm:c.args.toList.map a.eval,h2 with
   | [u],_=>rw[hm] at h1; rw[gF hs (h1 0 _ u rfl rfl)]
  rw[←Array.toArray_toList (xs:=c.args.map a.eval),Array.toList_map,this]
 obtain⟨et,het⟩:=Option.isSome_iff_exists.1 hsl
 have hu:=(hT _ _ (ab hi)).sle et het
 have hat:c.argTypes = #[t]:=by rw[←Array.toArray_toList (xs:=c.argTypes),hty]
 have hle:(r.l.R ρ).length≤maxLen:=hok.rows.len
 refine⟨.int .i64 (s.n:Int),by rw[hok.n]; simp[V.den,C.den,gY hle],?_⟩
 simp[execOp,hop,resolve,hc,h3,hat,Sem.run_bind,invoke,builtin,Builtin.len_,run_underlying hu,SV.v,goInt]
def zV {α:Type}:Nat→α→α→α→α→α
 | 0,a,_,_,_=>a
 | 1,_,b,_,_=>b
 | 2,_,_,c,_=>c
 | _,_,_,_,d=>d
theorem mH {j:J} {w:World} {s:SV} {r:RowOb} (hok:EvOk ρ base w s r) {e:E} (hb:0≤e.I ρ∧e.I ρ<((r.l.R ρ).length:Int)) {p:Addr} (hp:s.a=some p):∃row x,(r.l.R ρ)[(e.I ρ).toNat]? =some row∧ar evKs row=true∧EiOk s.z row x∧gt (r.l.R ρ) (e.I ρ) 0=row.getD 0 0∧gt (r.l.R ρ) (e.I ρ) 1=row.getD 1 0∧∀c u,(bK row x)[c]? =some u→w.cell? (p.add ((e.I ρ).toNat*3+c))=some u:=by
 obtain⟨ins,hl,_,hrd,hei⟩:=hok.at'
 have hlt:(e.I ρ).toNat<(r.l.R ρ).length:=by omega
 have hr:=List.getElem?_eq_getElem hlt
 have hx:=List.getElem?_eq_getElem (show(e.I ρ).toNat<ins.length by omega)
 have hg:∀c,gt (r.l.R ρ) (e.I ρ) c=((r.l.R ρ)[(e.I ρ).toNat]).getD c 0:=fun c=>by
  unfold gt
  rw[show(r.l.R ρ).getD (e.I ρ).toNat []=(r.l.R ρ)[(e.I ρ).toNat] from by rw[List.getD_eq_getElem?_getD,hr]; rfl]
 refine⟨_,_,hr,?_,hei _ _ _ hr hx,hg 0,hg 1,fun c u hu=> ?_⟩
 ·have:=hok.rows.row _ (List.getElem_mem hlt)
  rw[hok.ks] at this; exact this
 ·have hc:c<3:=by
   have:=(List.getElem?_eq_some_iff.1 hu).1
   simpa[bK] using this
  have:=lr hr hx c hc
  exact hrd.2.2.2.2 p hp _ _ (this.trans hu)
theorem wj {j:J} {w:World} {s x:SV} {row:List Int} {l e:E} (hr:(l.R ρ)[(e.I ρ).toNat]? =some row) (hin:ar evKs row=true) (hei:EiOk s.z row x) (hz:Zin j s∧∀p∈s.z,w.heap[p.1]? =some p.2) (ty:Nat):
  RowOk ρ base w {x with z:=[]} ⟨[some .u64],ty,ig l e,false,.sl⟩∧∀k,({x with z:=[]}:SV).blk false=some k→∃o,j.g.z k=some o∧isCl o=true:=by
 obtain⟨h1,h2,h3⟩:=abV hr hin hei.n hei.most
 have hblk:∀k,({x with z:=[]}:SV).blk false=some k→∃o,(k,o)∈s.z:=fun k hk=>hei.blk k hk
 refine⟨SlOk.row ⟨h1.symm,⟨h3,?_⟩,by simp,fun k hk=> ?_,fun ho=>(by cases ho),?_⟩ rfl,fun k hk=> ?_⟩
 ·have:=hei.most
  have h1':((ig l e).R ρ).length=x.n:=h1
  show((ig l e).R ρ).length≤maxLen
  simp only[maxLen]
  omega
 ·obtain⟨o,ho⟩:=hblk k hk
  exact(Array.getElem?_eq_some_iff.1 (hz.2 _ ho)).1
 ·have:=hei.rd w hz.2
  show RdRow w 1 _ (flat [some .u64] ((ig l e).R ρ))
  rw[h2]; exact this
 ·obtain⟨o,ho⟩:=hblk k hk
  exact⟨o,hz.1 _ ho⟩
theorem sD (hT:∀t i,(t,i)∈cx.ty→TIok P t i) {t:Nat} {x:Operand} {kw:Kw} (hop:o.op=.load t x) {id off ty:Nat} {e:E} (hx:vw.ev x=some (.one (.ep id 3 e off))) {i:TI} (hi:af t cx.ty=some i) {r:RowOb} (hr:vw.evw id=some r)
  (h:(decK (inB e r.l) (fun b kw=>if b then
      (if i.agg then(if Nat.beq i.size 3&&Nat.beq off 0 then k {val:=.agg [.int .i64 (.get r.l e 0),.sl vw.nid,.int .u64 (.get r.l e 1)],rr:=[id],re:=.peek ⟨[some .u64],ty,ig r.l e,false,.sl⟩} kw else .stuck 221)
      else zV off (k {val:=.one (.int .i64 (.get r.l e 0)),rr:=[id]} kw) (k {val:=.one (.sl vw.nid),rr:=[id],re:=.peek ⟨[some .u64],ty,ig r.l e,false,.sl⟩} kw) (k {val:=.one (.int .u64 (.get r.l e 1)),rr:=[id]} kw) (.stuck 222))
      else .stuck 223) kw).holds sp G ρ I) (hg:Good sp cx.sm ρ kw):Sound P sp ρ G I base cx vw o k kw:=by
 obtain⟨kw',h1,g1,_,l1⟩:=ak _ _ _ h hg
 rw[th] at h1
 have ht:=hT _ _ (ab hi)
 split at h1
 ·rename_i hb
  simp only[Bool.and_eq_true,decide_eq_true_eq] at hb
  split at h1
  ·rename_i hagg
   split at h1
   ·rename_i hq
    rw[Bool.and_eq_true] at hq
    have hq1:=Nat.eq_of_beq_eq_true hq.1
    have hq2:=Nat.eq_of_beq_eq_true hq.2
    subst hq2
    refine⟨_,kw',h1,g1,l1,fun j a w hbs hev hrd hwr hrr hfb K Q hK=> ?_⟩
    obtain⟨s,hs,hok,hz⟩:=hrr.ev id (by simp) r hr
    obtain⟨p,hp,he⟩:=pS hs (hev x (by simp[hop,Op.operands]) _ hx)
    obtain⟨row,y,q1,q2,q3,q4,q5,q6⟩:=mH (j:=j) hok hb hp
    obtain⟨p1,p2⟩:=wj (base:=base) q1 q2 q3 hz ty
    refine bs (w':=w) (v:=.agg (bK row y).toArray) ?_ (hK _ (j.putS vw.nid {y with z:=[]}) w ?_ ⟨rfl,_,p1,p2,rfl,rfl⟩)
    ·have h4:=bC (P:=P) (a:=p.add ((e.I ρ).toNat*3+0)) (w:=w) (bK row y) 0 #[] (fun m u hu=>by
      rw[Nat.zero_add,aX,Nat.add_assoc,Nat.zero_add]
      exact q6 m u hu)
     have h5:(bK row y).length=3:=rfl
     rw[h5] at h4
     simp only[Nat.add_zero] at he h4
     simp[execOp,hop,he,Instr.loadAt,Instr.sureAddr,Sem.run_bind,loadVar,ht.agg,hagg,ht.size,hq1,loadCells,h4]
    ·simp only[V.den,denL,C.den,J.putS,if_true,Option.map_some,E.I,q4,q5,bK]
     rfl
   ·exact h1.elim
  ·rename_i hagg
   have hagg':i.agg=false:=by simpa using hagg
   have one:∀{j:J} {a:Act} {w:World} {s:SV} {p:Addr} {row:List Int} {y:SV} (c:Nat) (u:Value),a.eval x=.pointer (some (p.add ((e.I ρ).toNat*3+c)))→(∀c u,(bK row y)[c]? =some u→w.cell? (p.add ((e.I ρ).toNat*3+c))=some u)→(bK row y)[c]? =some u→(execOp a.eval o).run P w=.ok (.value u) w:=by
    intro j a w s p row y c u he q6 hu
    have h4:=q6 c u hu
    simp[execOp,hop,he,Instr.loadAt,Instr.sureAddr,Sem.run_bind,loadVar,ht.agg,hagg',load,Sem.run,h4]
   match off,h1,hx with
   | 0,h1,hx=>
     refine⟨_,kw',h1,g1,l1,OpOk.pure fun j a w _ hev _ hrr _=> ?_⟩
     obtain⟨s,hs,hok,hz⟩:=hrr.ev id (by simp) r hr
     obtain⟨p,hp,he⟩:=pS hs (hev x (by simp[hop,Op.operands]) _ hx)
     obtain⟨row,y,q1,q2,q3,q4,q5,q6⟩:=mH (j:=j) hok hb hp
     exact⟨.int .i64 (row.getD 0 0),by simp only[V.den,C.den,E.I,q4],one (j:=j) (s:=s) 0 _ he q6 rfl⟩
   | 1,h1,hx=>
     refine⟨_,kw',h1,g1,l1,fun j a w hbs hev hrd hwr hrr hfb K Q hK=> ?_⟩
     obtain⟨s,hs,hok,hz⟩:=hrr.ev id (by simp) r hr
     obtain⟨p,hp,he⟩:=pS hs (hev x (by simp[hop,Op.operands]) _ hx)
     obtain⟨row,y,q1,q2,q3,q4,q5,q6⟩:=mH (j:=j) hok hb hp
     obtain⟨p1,p2⟩:=wj (base:=base) q1 q2 q3 hz ty
     refine bs (w':=w) (v:=y.v) (one (j:=j) (s:=s) 1 _ he q6 rfl) (hK _ (j.putS vw.nid {y with z:=[]}) w ?_ ⟨rfl,_,p1,p2,rfl,rfl⟩)
     simp only[V.den,C.den,J.putS,if_true,Option.map_some]
     rfl
   | 2,h1,hx=>
     refine⟨_,kw',h1,g1,l1,OpOk.pure fun j a w _ hev _ hrr _=> ?_⟩
     obtain⟨s,hs,hok,hz⟩:=hrr.ev id (by simp) r hr
     obtain⟨p,hp,he⟩:=pS hs (hev x (by simp[hop,Op.operands]) _ hx)
     obtain⟨row,y,q1,q2,q3,q4,q5,q6⟩:=mH (j:=j) hok hb hp
     exact⟨.int .u64 (row.getD 1 0),by simp only[V.den,C.den,E.I,q5],one (j:=j) (s:=s) 2 _ he q6 rfl⟩
   | _+3,h1,_=>exact h1.elim
 ·exact h1.elim
theorem nv (hT:∀t i,(t,i)∈cx.ty→TIok P t i) {c:Call} {kw:Kw} (hop:o.op=.call c) (hc:c.callee=.builtin .append) {old id t:Nat} (hl:evL vw.ev c.args.toList=some [.one (.sl old),.one (.sl id)]) (hty:c.argTypes.toList=[t,t]) {i:TI} (hi:af t cx.ty=some i) {et:Nat} (ha:i.sle=some et) {ie:TI} (hie:af et cx.ty=some ie)
  {r q:RowOb} (hr:vw.evw id=some r) (hrq:vw.evw old=some q) (h3:ie.size=3) (hby:ie.bytes≤65536) (hro:r.own=true) (hqo:q.own=true) (hqt:q.ty=et)
  (h:(decK (cE (mkLt (aY q.l) (.lit bigB)) (mkLt (aY r.l) (.lit bigB))) (fun b kw=>if b then k {val:=.one (.sl vw.nid),rr:=[old,id],re:=.app old ⟨evKs,et,catE q.l r.l,true,.ev⟩} kw else .panic) kw).holds sp G ρ I) (hg:Good sp cx.sm ρ kw):Sound P sp ρ G I base cx vw o k kw:=by
 obtain⟨kw1,h1,g1,_,l1⟩:=ak _ _ _ h hg
 rw[bN,aG,aG,aU,aU] at h1
 split at h1
 ·rename_i hbig
  rw[Bool.and_eq_true] at hbig
  have hb1:((q.l.R ρ).length:Int)<1073741824:=of_decide_eq_true hbig.1
  have hb2:((r.l.R ρ).length:Int)<1073741824:=of_decide_eq_true hbig.2
  refine⟨_,kw1,h1,g1,l1,fun j a w hb hev hrd hwr hrr hfb K Q hK=> ?_⟩
  obtain⟨s,hs,hok,hzs⟩:=hrr.ev id (by simp) r hr
  obtain⟨p,hp,hop',hzp⟩:=hrr.ev old (by simp) q hrq
  obtain⟨u1,u2,hargs,hd1,hd2⟩:=kG (j:=j) (a:=a) hl (fun x hx=>hev x (by simp[hop,Op.operands,Call.operands]; exact .inr (by simpa using hx)))
  have e1:=gF hp hd1
  have e2:=gF hs hd2
  subst e1 e2
  have hu:=(hT _ _ (ab hi)).sle et ha
  obtain⟨inf,z,hinf,hisz,hbytes,hz,hzl,hzd⟩:=(hT _ _ (ab hie)).info
  have hat:c.argTypes = #[t,t]:=by rw[←Array.toArray_toList (xs:=c.argTypes),hty]
  have hn:=hok.n
  have hpn:=hop'.n
  obtain⟨ip,i1,i2,i3,i4⟩:=hop'.at'
  obtain⟨iss,j1,j2,j3,j4⟩:=hok.at'
  have hown:=i2 hqo
  rw[hqt,←h3,←hisz] at hown
  have hrd':=j3
  rw[←h3,←hisz] at hrd'
  obtain⟨s',w',h2,k3,h4,h5,h6,h7⟩:=bc (P:=P) (base:=base) (ty:=o.type) hu hinf hz (by rw[hisz]; simpa using hzl) (by omega) hown hrd' lq (by simp only[maxLen]; omega)
   (by
    have:(p.n+s.n)*inf.bytes≤2147483648*65536:=Nat.mul_le_mul (by omega) (by omega)
    omega) hb
  rw[gr i1,hisz,h3,←k3] at h4
  have hR:(catE q.l r.l).R ρ=q.l.R ρ++r.l.R ρ:=xu ρ _ _
  have hown':=j2 hro
  refine bs (w':=w') (v:=s'.v) ?_ (hK _ (j.putS vw.nid {s' with z:=p.z++s.z}) _ ?_ ⟨p,{s' with z:=p.z++s.z},hp,h5,EvOk.row ⟨rfl,?_,⟨fun x hx=> ?_,?_⟩,fun k hk=> ?_,fun _ x hx=> ?_,ip++iss,?_,fun _=> ?_,?_,fun m row x hm hx=> ?_⟩ rfl,h6,fun x hx=> ?_,rfl⟩)
  ·simp only[execOp,hop,resolve,hc,hargs,hat,Sem.run_bind,Sem.run_pure,Result.andThen_ok,invoke,builtin,h2]
  ·simp only[V.den,C.den,J.putS,if_true,Option.map_some]; rfl
  ·show s'.n=((catE q.l r.l).R ρ).length
   rw[hR,List.length_append]; omega
  ·have hx:x∈(catE q.l r.l).R ρ:=hx
   rw[hR,List.mem_append] at hx
   rcases hx with hx | hx
   ·have:=hop'.rows.row x hx; rw[hop'.ks] at this; exact this
   ·have:=hok.rows.row x hx; rw[hok.ks] at this; exact this
  ·show((catE q.l r.l).R ρ).length≤maxLen
   rw[hR,List.length_append]; simp only[maxLen]; omega
  ·exact(kS (s:=s') h4 k (ap hk)).1
  ·rcases List.mem_append.1 hx with hx | hx
   ·exact hop'.zb hqo x hx
   ·exact hok.zb hro x hx
  ·show(ip++iss).length=((catE q.l r.l).R ρ).length
   rw[hR,List.length_append,List.length_append,i1,j1]
  ·show w'.ownsRow base et 3 s'.v s'.n (bW ((catE q.l r.l).R ρ) (ip++iss))
   rw[hR]; exact h4
  ·show RdRow w' 3 _ (bW ((catE q.l r.l).R ρ) (ip++iss))
   rw[hR]; exact jP h4
  ·have hm:((catE q.l r.l).R ρ)[m]? =some row:=hm
   rw[hR] at hm
   rcases Nat.lt_or_ge m (q.l.R ρ).length with hlt | hge
   ·rw[List.getElem?_append_left hlt] at hm
    rw[List.getElem?_append_left (by omega)] at hx
    exact(i4 m row x hm hx).mono (fun y hy=>List.mem_append_left _ hy)
   ·rw[List.getElem?_append_right hge] at hm
    rw[List.getElem?_append_right (by omega),i1] at hx
    exact(j4 _ row x hm hx).mono (fun y hy=>List.mem_append_right _ hy)
  ·rcases List.mem_append.1 hx with hx | hx
   ·exact hzp.1 x hx
   ·exact hzs.1 x hx
 ·exact h1.elim
def arrE (kd:IntKind):E→List C→Option E
 | l,[]=>some l
 | l,.int k e::cs=>if aR k kd then arrE kd (.lapp l (.cons e .nil)) cs else none
 | _,_=>none
theorem xC {kd:IntKind} {j:J}:∀{cs:List C} {l l':E} {vs:List Value},arrE kd l cs=some l'→denL ρ j cs=some vs→(l'.R ρ).length=(l.R ρ).length+cs.length∧flat [some kd] (l'.R ρ)=flat [some kd] (l.R ρ)++vs
 | [],l,l',vs,h,hd=>by cases h; cases hd; simp
 | .int k e::cs,l,l',vs,h,hd=>by
   simp only[arrE] at h
   split at h
   ·rename_i hk
    simp only[denL,C.den] at hd
    cases hl:denL ρ j cs with
    | none=>rw[hl] at hd; cases hd
    | some us=>
      rw[hl] at hd; cases hd
      obtain⟨h1,h2⟩:=xC h hl
      refine⟨by rw[h1]; simp[E.R]; omega,?_⟩
      rw[h2]
      simp only[E.R,E.L,du,List.append_assoc]
      congr 1
      rw[ao hk]
      rfl
   ·cases h
def cutB (n:Nat) (lo hi:E):E:=cE (bL (mkLt lo (.lit 0))) (cE (bL (mkLt hi lo)) (bL (mkLt (.lit n) hi)))
theorem zX {n:Nat} {lo hi:E} (h:(cutB n lo hi).B ρ=true):0≤lo.I ρ∧lo.I ρ≤hi.I ρ∧hi.I ρ≤(n:Int):=by
 unfold cutB at h
 rw[bN,bN,Bool.and_eq_true,Bool.and_eq_true,bl,bl,bl,aG,aG,aG,Bool.not_eq_true',Bool.not_eq_true',Bool.not_eq_true'] at h
 obtain⟨h1,h2,h3⟩:=h
 replace h1:¬lo.I ρ<0:=of_decide_eq_false h1
 replace h2:=of_decide_eq_false h2
 replace h3:¬(n:Int)<hi.I ρ:=of_decide_eq_false h3
 exact⟨by omega,by omega,by omega⟩
theorem kB {w:World} {n l h:Nat} {low high:Option Value} (hl:(low=none∧l=0)∨∃kd:IntKind,low=some (.int kd (l:Int))) (hh:(high=none∧h=n)∨∃kd:IntKind,high=some (.int kd (h:Int))) (h1:l≤h) (h2:h≤n):(Instr.sliceBounds false n n low high none).run P w=.ok (l,h,n) w:=by
 have sb:∀(kd:IntKind) (m y:Nat) code,m≤y→(Instr.sliceBound (.int kd (m:Int)) y code).run P w=.ok m w:=fun kd m y code hmy=>by
  have h5:(m:Int)≤(y:Int):=by omega
  simp[Instr.sliceBound,asIntOf,Sem.run_bind,hmy]
 rcases hl with⟨rfl,rfl⟩ | ⟨kd,rfl⟩<;>rcases hh with⟨rfl,rfl⟩ | ⟨kd',rfl⟩
 ·simp[Instr.sliceBounds,Sem.run_bind]
 ·simp[Instr.sliceBounds,Sem.run_bind,sb kd' h n _ h2]
 ·simp[Instr.sliceBounds,Sem.run_bind,sb kd l _ _ h1]
 ·simp[Instr.sliceBounds,Sem.run_bind,sb kd l h _ h1,sb kd' h n _ h2]
theorem sE (hT:∀t i,(t,i)∈cx.ty→TIok P t i) {t:Nat} {x:Operand} {lo hi':Option Operand} {kw:Kw} (hop:o.op=.slice t x lo hi' none) {b off:Nat} (hx:vw.ev x=some (.one (.ptr b off))) {i:TI} (hi:af t cx.ty=some i) {n et:Nat} (ha:i.arr=some (n,et)) {ie:TI} (hie:af et cx.ty=some ie)
  {a c:E} (hlo:idxE vw lo (.lit 0)=some a) (hhi:idxE vw hi' (.lit n)=some c)
  (h:(decK (cutB n a c) (fun ok kw=>if ok then k {val:=.one (.aw b off n ie.size a c (.lit n))} kw else .panic) kw).holds sp G ρ I) (hg:Good sp cx.sm ρ kw):Sound P sp ρ G I base cx vw o k kw:=by
 obtain⟨kw1,h1,g1,_,l1⟩:=ak _ _ _ h hg
 split at h1
 ·rename_i hb
  obtain⟨b1,b2,b3⟩:=zX hb
  refine⟨_,kw1,h1,g1,l1,OpOk.pure fun j ac w _ hev _ _ _=> ?_⟩
  obtain⟨kk,hk,hv⟩:=eU (hev x (by simp[hop,Op.operands]) _ hx)
  have hu:=(hT _ _ (ab hi)).arr _ _ ha
  have hsz:=(hT _ _ (ab hie)).size w
  have hl1:(lo.map ac.eval=none∧(a.I ρ).toNat=0)∨∃kd:IntKind,lo.map ac.eval=some (.int kd (((a.I ρ).toNat:Nat):Int)):=by
   rcases mB hlo with⟨rfl,rfl⟩ | ⟨y,kd,rfl,hy⟩
   ·exact .inl ⟨rfl,rfl⟩
   ·refine .inr ⟨kd,?_⟩
    rw[Option.map_some,aQ (hev y (by simp[hop,Op.operands]) _ hy),Int.toNat_of_nonneg b1]
  have hh1:(hi'.map ac.eval=none∧(c.I ρ).toNat=n)∨∃kd:IntKind,hi'.map ac.eval=some (.int kd (((c.I ρ).toNat:Nat):Int)):=by
   rcases mB hhi with⟨rfl,rfl⟩ | ⟨y,kd,rfl,hy⟩
   ·exact .inl ⟨rfl,by simp[E.I]⟩
   ·refine .inr ⟨kd,?_⟩
    rw[Option.map_some,aQ (hev y (by simp[hop,Op.operands]) _ hy),Int.toNat_of_nonneg (by omega)]
  refine⟨_,by simp only[V.den,C.den,hk,Option.map_some,E.I]; rfl,?_⟩
  have b1':=kB (P:=P) (w:=w) hl1 hh1 (by omega) (by omega)
  have hrun:(Instr.sliceAt t (.pointer (some ⟨kk,off,none⟩)) (lo.map ac.eval) (hi'.map ac.eval) none).run P w=.ok ((⟨some ⟨kk,off,none⟩,n,n,[]⟩:SV).cut ie.size (a.I ρ).toNat (c.I ρ).toNat n).v w:=by
   simp only[Instr.sliceAt,Sem.run_bind,run_underlying hu,Result.andThen_ok,Instr.sureAddr,asAddr,Sem.run_pure,b1',hsz,SV.cut,SV.v]
   congr 2
   split<;>rfl
  have e3:Option.map ac.eval (none:Option Operand)=none:=rfl
  simp only[execOp,hop,hv,Sem.run_bind,e3,hrun,Result.andThen_ok,Sem.run_pure]
  rfl
 ·exact h1.elim
theorem sG (hT:∀t i,(t,i)∈cx.ty→TIok P t i) {c:Call} {kw:Kw} (hop:o.op=.call c) (hc:c.callee=.builtin .append) {b off n:Nat} {lo hi' mx:E} {t:Nat} (hl:evL vw.ev c.args.toList=some [.one .nsl,.one (.aw b off n 1 lo hi' mx)]) (hty:c.argTypes.toList=[t,t]) {i:TI} (hi:af t cx.ty=some i) {et:Nat} (ha:i.sle=some et) {ie:TI} (hie:af et cx.ty=some ie)
  {kd:IntKind} {cs:List C} (hrow:vw.row b off n=some cs) {L:E} (hL:arrE kd .lnil cs=some L) (hlok:L.lok kw.vk [some kd]=true) (h1s:ie.size=1) (hby:ie.bytes≤65536) (hn0:0<n) (hn1:n≤65536)
  (h:(decK (cE (cutB n lo hi') (cE (bL (mkLt mx hi')) (bL (mkLt (.lit n) mx)))) (fun ok kw=>if ok then k {val:=.one (.sl vw.nid),rd:=bG b off n,re:=.mk [⟨[some kd],et,cw (cd L hi') lo,true,kdOf [some kd]⟩]} kw else .stuck 224) kw).holds sp G ρ I) (hg:Good sp cx.sm ρ kw):Sound P sp ρ G I base cx vw o k kw:=by
 obtain⟨kw1,h1,g1,_,l1⟩:=ak _ _ _ h hg
 split at h1
 ·rename_i hb
  rw[bN,Bool.and_eq_true] at hb
  obtain⟨b1,b2,b3⟩:=zX hb.1
  have hmx:hi'.I ρ≤mx.I ρ∧mx.I ρ≤(n:Int):=by
   have h9:=hb.2
   rw[bN,Bool.and_eq_true,bl,bl,aG,aG,Bool.not_eq_true',Bool.not_eq_true'] at h9
   have h7:=of_decide_eq_false h9.1
   have h8:¬((n:Int)<mx.I ρ):=of_decide_eq_false h9.2
   omega
  refine⟨_,kw1,h1,g1,l1,fun j a w hbs hev hrd hwr hrr hfb K Q hK=> ?_⟩
  obtain⟨u1,u2,hargs,hd1,hd2⟩:=kG (j:=j) (a:=a) hl (fun x hx=>hev x (by simp[hop,Op.operands,Call.operands]; exact .inr (by simpa using hx)))
  have e1:=iv hd1
  simp only[V.den,C.den,Option.map_eq_some_iff] at hd2
  obtain⟨kk,hk,e2⟩:=hd2
  subst e1 e2
  have hu:=(hT _ _ (ab hi)).sle et ha
  obtain⟨inf,z,hinf,hisz,hbytes,hz,hzl,hzd⟩:=(hT _ _ (ab hie)).info
  have hat:c.argTypes = #[t,t]:=by rw[←Array.toArray_toList (xs:=c.argTypes),hty]
  obtain⟨clen,vs,hvs,hcell⟩:=gQ (ρ:=ρ) (w:=w) hk (vw.rowok _ _ _ _ hrow) hrd
  obtain⟨q1,q2⟩:=xC hL hvs
  simp only[E.R,List.length_nil,Nat.zero_add,yX,List.nil_append] at q1 q2
  have vlen:vs.length=n:=by rw[aA hvs,clen]
  have hrows:RowsIn [some kd] (L.R ρ):=⟨E.lok_ok hg.vk L hlok,by rw[q1,clen]; simp only[maxLen]; omega⟩
  have add0:∀m,(⟨kk,off,none⟩:Addr).add m=⟨kk,off+m,none⟩:=fun m=>by unfold Addr.add; split<;>simp_all
  have hs0:SlOk ρ base w ⟨some ⟨kk,off,none⟩,n,n,[]⟩ ⟨[some kd],et,L,false,.sl⟩:=by
   refine⟨by show n=_; rw[q1,clen],hrows,by simp,fun k hk'=> ?_,fun ho=>(by cases ho),?_⟩
   ·have hk':=ap hk'
    simp only[SV.v,Value.ownBlock,Option.some.injEq] at hk'
    subst hk'
    have h0:0<vs.length:=by omega
    exact World.block_lt_of_cell? w ⟨kk,off+0,none⟩ (hcell 0 vs[0] (List.getElem?_eq_getElem h0))
   ·refine⟨by rw[q2,vlen]; simp,Nat.le_refl _,by simp only[maxLen]; omega,fun h=>(by cases h),fun ad had m u hm=> ?_⟩
    cases had
    rw[add0]
    exact hcell m u (by rw[←q2]; exact hm)
  have hcut:=qi (q:=⟨[some kd],et,cw (cd L hi') lo,false,.sl⟩) hs0 ⟨rfl,rfl⟩ (by rw[gb,fZ]) (l:=(lo.I ρ).toNat) (h:=(hi'.I ρ).toNat) (m:=(mx.I ρ).toNat) (by omega) (by show _≤n; omega) (by omega) (by show _≤n; omega)
  have hn:((⟨some ⟨kk,off,none⟩,n,n,[]⟩:SV).cut 1 (lo.I ρ).toNat (hi'.I ρ).toNat (mx.I ρ).toNat).n=((cw (cd L hi') lo).R ρ).length:=hcut.n
  have hrd':RdRow w inf.size ((⟨some ⟨kk,off,none⟩,n,n,[]⟩:SV).cut 1 (lo.I ρ).toNat (hi'.I ρ).toNat (mx.I ρ).toNat) (flat [some kd] ((cw (cd L hi') lo).R ρ)):=by rw[hisz,h1s]; exact hcut.rd
  have hlen:((cw (cd L hi') lo).R ρ).length≤65536:=by
   rw[gb,fZ,List.length_drop,List.length_take]
   omega
  obtain⟨s',w',h2,h3,h4,h5,h6,h7⟩:=bc (P:=P) (base:=w.heap.size) (ty:=o.type) hu hinf hz (by rw[hisz]; simpa using hzl) (by omega) (World.ownsRow_nil w w.heap.size et inf.size) hrd' eE (by rw[hn]; simp only[maxLen]; omega)
   (by
    have:(0+(SV.cut ⟨some ⟨kk,off,none⟩,n,n,[]⟩ 1 (lo.I ρ).toNat (hi'.I ρ).toNat (mx.I ρ).toNat).n)*inf.bytes≤65536*65536:=Nat.mul_le_mul (by rw[hn]; omega) (by omega)
    omega) (Nat.le_refl _)
  simp only[Nat.zero_add,List.nil_append] at h3 h4
  rw[hisz,h1s] at h4
  rw[←h3] at h4
  have hnn:s'.n=((cw (cd L hi') lo).R ρ).length:=by rw[h3]; exact hn
  refine bs (w':=w') (v:=s'.v) ?_ (hK _ (j.putL vw.nid [s']) _ nC (oz (Ext.of_grown h5) (RowOk.mk_own (r:=⟨[some kd],et,cw (cd L hi') lo,true,kdOf [some kd]⟩) (by cases kd<;>rfl) hnn hcut.rows (by simp) h4) rfl rfl))
  simp only[execOp,hop,resolve,hc,hargs,hat,Sem.run_bind,Sem.run_pure,Result.andThen_ok,invoke,builtin]
  simp only[h2,Result.andThen_ok]
 ·exact h1.elim
theorem iy (kd:IntKind) (l:E):∀(n i:Nat),(gp kd l i n).all C.solid=true
 | 0,_=>rfl
 | n+1,i=>by simp[gp,C.solid,iy kd l n (i+1)]
theorem lk {kd:IntKind} {l:E} {j:J} (hr:RowsIn [some kd] (l.R ρ)):∀(n i:Nat),i+n=(l.R ρ).length→denL ρ j (gp kd l i n)=some (flat [some kd] ((l.R ρ).drop i))
 | 0,i,h=>by rw[List.drop_eq_nil_of_le (by omega)]; rfl
 | n+1,i,h=>by
   have hlt:i<(l.R ρ).length:=by omega
   have ih:=lk (j:=j) hr n (i+1) (by omega)
   have hx:=bT (hr.row _ (List.getElem_mem hlt))
   obtain⟨x,hx'⟩:∃x,(l.R ρ)[i]=[x]:=by
    match hq:(l.R ρ)[i],hx with
    | [x],_=>exact⟨x,rfl⟩
   rw[List.drop_eq_getElem_cons hlt,bj,hx']
   have hg:gt (l.R ρ) (i:Int) 0=x:=by
    unfold gt
    rw[show(l.R ρ).getD ((i:Int)).toNat []=[x] from by rw[List.getD_eq_getElem?_getD,Int.toNat_natCast,List.getElem?_eq_getElem hlt,hx']; rfl]
    rfl
   simp only[gp,denL,C.den,E.I,ih,hg]
   rfl
theorem o8 (hT:∀t i,(t,i)∈cx.ty→TIok P t i) {c:Call} {kw:Kw} (hop:o.op=.call c) (hc:c.callee=.builtin .copy) {b off n id:Nat} {t t':Nat} (hl:evL vw.ev c.args.toList=some [.one (.aw b off n 1 (.lit 0) (.lit n) (.lit n)),.one (.sl id)]) (hty:c.argTypes.toList=[t,t']) {i:TI} (hi:af t cx.ty=some i) {et:Nat} (ha:i.sle=some et) {ie:TI} (hie:af et cx.ty=some ie) (h1s:ie.size=1)
  {kd:IntKind} {r:RowOb} (hr:vw.sw id=some r) (hks:r.ks=[some kd]) (hn0:0<n)
  (h:(decK (mkEq (aY r.l) (.lit n)) (fun ok kw=>if ok then k {val:=.one (.int .i64 (.lit n)),wr:=bZ b off (gp kd r.l 0 n),rr:=[id]} kw else .stuck 225) kw).holds sp G ρ I) (hg:Good sp cx.sm ρ kw):Sound P sp ρ G I base cx vw o k kw:=by
 obtain⟨kw1,h1,g1,_,l1⟩:=ak _ _ _ h hg
 rw[kV,aU] at h1
 split at h1
 ·rename_i hb
  have hb:(r.l.R ρ).length=n:=by
   have:=eq_of_beq hb
   simp only[E.I] at this
   omega
  refine⟨_,kw1,h1,g1,l1,fun j a w hbs hev hrd hwr hrr hfb K Q hK=> ?_⟩
  obtain⟨s,hs,hok⟩:=hrr.sl id (by simp) r hr
  obtain⟨u1,u2,hargs,hd1,hd2⟩:=kG (j:=j) (a:=a) hl (fun x hx=>hev x (by simp[hop,Op.operands,Call.operands]; exact .inr (by simpa using hx)))
  simp only[V.den,C.den,Option.map_eq_some_iff] at hd1
  obtain⟨kk,hk,e1⟩:=hd1
  have e2:=gF hs hd2
  subst e1 e2
  have hu:=(hT _ _ (ab hi)).sle et ha
  obtain⟨inf,z,hinf,hisz,_,_,_,_⟩:=(hT _ _ (ab hie)).info
  have hat:c.argTypes = #[t,t']:=by rw[←Array.toArray_toList (xs:=c.argTypes),hty]
  have hsn:s.n=n:=by rw[hok.n,hb]
  have hrd':=hok.rd
  have hrows:=hok.rows
  rw[hks] at hrd' hrows
  obtain⟨ad,had⟩:∃ad,s.a=some ad:=by
   cases hsa:s.a with
   | some ad=>exact⟨ad,rfl⟩
   | none=>have:=(hrd'.2.2.2.1 hsa).1; omega
  have hflen:(flat [some kd] (r.l.R ρ)).length=n:=by rw[hrd'.1,hsn]; simp
  have hden:denL ρ j (gp kd r.l 0 n)=some (flat [some kd] (r.l.R ρ)):=by
   have:=lk (j:=j) hrows n 0 (by omega)
   rwa [List.drop_zero] at this
  have hload:=run_loadCells_list (P:=P) w ad (flat [some kd] (r.l.R ρ)) (fun m u hm=>hrd'.2.2.2.2 ad had m u hm)
  rw[hflen] at hload
  obtain⟨w',hw1,hw2⟩:=bP (P:=P) hk ⟨kk,off,none⟩ (gp kd r.l 0 n) off 0 _ w (fun m=>by rw[Nat.zero_add,bi]) hden (iy kd r.l n 0) hwr
  refine bs (w':=w') (v:=.int .i64 (n:Int)) ?_ (hK _ j w' (by simp[V.den,C.den,E.I]) ⟨rfl,w,.refl w,hw1⟩)
  obtain⟨sa,sn,sc,sz⟩:=s
  simp only at had hsn
  subst had hsn
  have hi1:inf.size=1:=by rw[hisz,h1s]
  have hcut:((⟨some ⟨kk,off,none⟩,sn,sn,[]⟩:SV).cut 1 ((E.lit 0).I ρ).toNat ((E.lit (sn:Int)).I ρ).toNat ((E.lit (sn:Int)).I ρ).toNat).v=.slice (some ⟨kk,off,none⟩) sn sn:=by
   have e5:((E.lit 0).I ρ).toNat=0:=rfl
   have e6:((E.lit (sn:Int)).I ρ).toNat=sn:=Int.toNat_natCast sn
   rw[e5,e6]
   simp only[SV.cut,SV.v,Nat.sub_zero]
   rw[if_neg (by omega:¬sn=0)]
   simp only[Option.map_some,Nat.zero_mul,bi,Nat.add_zero]
  rw[hcut] at hargs
  simp only[execOp,hop,resolve,hc,hargs,hat,Sem.run_bind,Sem.run_pure,Result.andThen_ok,invoke,builtin,SV.v]
  simp[Builtin.copy_,run_underlying hu,Builtin.lenOf,Builtin.firstCells,sizeOf,typeInfo,hinf,hi1,hload,hw2,goInt]
 ·exact h1.elim
def opY (cx:Cx) (vw:Vw) (op:Op) (kw:Kw) (k:Eff→Kw→Tr):Option Tr:=match op with
 | .buildSlice t n ps=>match evP vw.ev ps.toList,af t cx.ty with
   | some parts,some i=>match i.sle with
     | some et=>match af et cx.ty with
       | some ie=>if Nat.beq n 1&&Nat.beq ie.size 3 then(match kF (fun m=>some (m*ie.size,ie.size)) ((List.replicate 1 ie.zero).flatten) parts with
         | some [.int .i64 e1,.sl id,.int .u64 e2]=>match vw.sw id with
           | some r=>if r.own&&(bk r.ks [some .u64]&&(evE kw.vk e1 e2 r.l).rok kw.vk evKs) then
            some (decK (mkLt (.lit 5) (aY r.l)) (fun b kw'=>if b then .stuck 220 else k {val:=.one (.sl vw.nid),rr:=[id],re:=.frz id {r with own:=false} ⟨evKs,et,.lapp .lnil (evE kw.vk e1 e2 r.l),true,.ev⟩} kw') kw) else none
           | none=>none
         | _=>none) else none
       | none=>none
     | none=>none
   | _,_=>none
 | .slice t x lo hi mx=>match vw.ev x,af t cx.ty,mx with
   | some (.one (.ptr b off)),some i,none=>match i.arr with
     | some (n,et)=>match af et cx.ty,idxE vw lo (.lit 0),idxE vw hi (.lit n) with
       | some ie,some a,some c=>if lo.isSome||hi.isSome then some (decK (cutB n a c) (fun ok kw=>if ok then k {val:=.one (.aw b off n ie.size a c (.lit n))} kw else .panic) kw) else none
       | _,_,_=>none
     | none=>none
   | _,_,_=>none
 | .indexAddr t x y=>match vw.ev x,vw.ev y,af t cx.ty with
   | some (.one (.sl id)),some (.one (.int _ e)),some i=>match i.sle,vw.evw id with
     | some et,some r=>match af et cx.ty with
       | some ie=>if Nat.beq ie.size 3 then some (decK (inB e r.l) (fun b kw=>if b then k {val:=.one (.ep id 3 e 0),rr:=[id]} kw else .panic) kw) else none
       | none=>none
     | _,_=>none
   | _,_,_=>none
 | .load t x=>match vw.ev x,af t cx.ty with
   | some (.one (.ep id esz e off)),some i=>match vw.evw id with
     | some r=>if Nat.beq esz 3 then some (decK (inB e r.l) (fun b kw=>if b then
      (if i.agg then(if Nat.beq i.size 3&&Nat.beq off 0 then k {val:=.agg [.int .i64 (.get r.l e 0),.sl vw.nid,.int .u64 (.get r.l e 1)],rr:=[id],re:=.peek ⟨[some .u64],acM cx r.ty,ig r.l e,false,.sl⟩} kw else .stuck 221)
      else zV off (k {val:=.one (.int .i64 (.get r.l e 0)),rr:=[id]} kw) (k {val:=.one (.sl vw.nid),rr:=[id],re:=.peek ⟨[some .u64],acM cx r.ty,ig r.l e,false,.sl⟩} kw) (k {val:=.one (.int .u64 (.get r.l e 1)),rr:=[id]} kw) (.stuck 222))
      else .stuck 223) kw) else none
     | none=>none
   | _,_=>none
 | .call c=>match c.callee with
   | .builtin .len=>match evL vw.ev c.args.toList,c.argTypes.toList with
     | some [.one (.sl id)],[t]=>match af t cx.ty,vw.evw id with
       | some i,some r=>if i.sle.isSome then some (k {val:=.one (.int .i64 (lenE kw.vk r.l)),rr:=[id]} kw) else none
       | _,_=>none
     | _,_=>none
   | .builtin .append=>match evL vw.ev c.args.toList,c.argTypes.toList with
     | some [.one (.sl old),.one (.sl id)],[t,t']=>match af t cx.ty,vw.evw id,vw.evw old with
       | some i,some r,some q=>match i.sle with
         | some et=>match af et cx.ty with
           | some ie=>if Nat.beq t t'&&(Nat.beq ie.size 3&&(decide (ie.bytes≤65536)&&(r.own&&(q.own&&Nat.beq q.ty et)))) then
            some (decK (cE (mkLt (aY q.l) (.lit bigB)) (mkLt (aY r.l) (.lit bigB))) (fun b kw=>if b then k {val:=.one (.sl vw.nid),rr:=[old,id],re:=.app old ⟨evKs,et,catE q.l r.l,true,.ev⟩} kw else .panic) kw) else none
           | none=>none
         | none=>none
       | _,_,_=>none
     | some [.one .nsl,.one (.aw b off n sz lo hi mx)],[t,t']=>match af t cx.ty with
       | some i=>match i.sle with
         | some et=>match af et cx.ty with
           | some ie=>match ie.ik,vw.row b off n with
             | some kd,some cs=>match arrE kd .lnil cs with
               | some L=>if Nat.beq t t'&&(Nat.beq ie.size 1&&(Nat.beq sz 1&&(decide (ie.bytes≤65536)&&(decide (0<n)&&(decide (n≤65536)&&L.lok kw.vk [some kd]))))) then
                some (decK (cE (cutB n lo hi) (cE (bL (mkLt mx hi)) (bL (mkLt (.lit n) mx)))) (fun ok kw=>if ok then k {val:=.one (.sl vw.nid),rd:=bG b off n,re:=.mk [⟨[some kd],et,cw (cd L hi) lo,true,kdOf [some kd]⟩]} kw else .stuck 224) kw) else none
               | none=>none
             | _,_=>none
           | none=>none
         | none=>none
       | none=>none
     | _,_=>none
   | .builtin .copy=>match evL vw.ev c.args.toList,c.argTypes.toList with
     | some [.one (.aw b off n sz (.lit l0) (.lit l1) (.lit l2)),.one (.sl id)],[t,_]=>match af t cx.ty with
       | some i=>match i.sle with
         | some et=>match af et cx.ty with
           | some ie=>match vw.sw id with
             | some r=>match r.ks with
               | [some kd]=>if Nat.beq ie.size 1&&(Nat.beq sz 1&&(decide (0<n)&&(dG l0 0&&(dG l1 n&&dG l2 n)))) then
                some (decK (mkEq (aY r.l) (.lit n)) (fun ok kw=>if ok then k {val:=.one (.int .i64 (.lit n)),wr:=bZ b off (gp kd r.l 0 n),rr:=[id]} kw else .stuck 225) kw) else none
               | _=>none
             | none=>none
           | none=>none
         | none=>none
       | none=>none
     | _,_=>none
   | _=>none
 | _=>none
theorem acl (hT:∀t i,(t,i)∈cx.ty→TIok P t i) {kw:Kw} {tr:Tr} (ht:opY cx vw o.op kw k=some tr) (h:tr.holds sp G ρ I) (hg:Good sp cx.sm ρ kw):Sound P sp ρ G I base cx vw o k kw:=by
 cases hop:o.op<;>rw[hop] at ht<;>simp only[opY] at ht
 case buildSlice t n ps=>
  split at ht
  ·rename_i parts i hps hi
   split at ht
   ·rename_i et ha
    split at ht
    ·rename_i ie hie
     split at ht
     ·rename_i hn
      rw[Bool.and_eq_true] at hn
      have hn1:=Nat.eq_of_beq_eq_true hn.1
      subst hn1
      split at ht
      ·rename_i e1 id e2 hfill
       split at ht
       ·rename_i r hr
        split at ht
        ·rename_i hq
         simp only[Bool.and_eq_true] at hq
         cases ht
         exact uK hT hop hps hi ha hie hfill (Nat.eq_of_beq_eq_true hn.2) hr hq.1 (bg hq.2.1) hq.2.2 h hg
        ·cases ht
       ·cases ht
      ·cases ht
     ·cases ht
    ·cases ht
   ·cases ht
  ·cases ht
 case slice t x lo hi' mx=>
  split at ht
  ·rename_i b off i hx hi
   split at ht
   ·rename_i n et ha
    split at ht
    ·rename_i ie a c hie hlo hhi
     split at ht
     ·cases ht; exact sE hT hop hx hi ha hie hlo hhi h hg
     ·cases ht
    ·cases ht
   ·cases ht
  ·cases ht
 case indexAddr t x y=>
  split at ht
  ·rename_i id k0 e i hx hy hi
   split at ht
   ·rename_i et r ha hr
    split at ht
    ·rename_i ie hie
     split at ht
     ·rename_i h3; cases ht; exact o5 hT hop hx hy hi ha hie hr (Nat.eq_of_beq_eq_true h3) h hg
     ·cases ht
    ·cases ht
   ·cases ht
  ·cases ht
 case load t x=>
  split at ht
  ·rename_i id esz e off i hx hi
   split at ht
   ·rename_i r hr
    split at ht
    ·rename_i h3
     have h3:=Nat.eq_of_beq_eq_true h3
     subst h3
     cases ht
     exact sD hT hop hx hi hr h hg
    ·cases ht
   ·cases ht
  ·cases ht
 case call c=>
  split at ht
  ·rename_i hc
   split at ht
   ·rename_i id t hl hty
    split at ht
    ·rename_i i r hi hr
     split at ht
     ·rename_i hsl; cases ht; exact uL hT hop hc hl hty hi hsl hr h hg
     ·cases ht
    ·cases ht
   ·cases ht
  ·rename_i hc
   split at ht
   ·rename_i old id t t' hl hty
    split at ht
    ·rename_i i r q hi hr hq
     split at ht
     ·rename_i et ha
      split at ht
      ·rename_i ie hie
       split at ht
       ·rename_i hp
        simp only[Bool.and_eq_true,decide_eq_true_eq] at hp
        have e1:=Nat.eq_of_beq_eq_true hp.1
        subst e1
        cases ht
        exact nv hT hop hc hl hty hi ha hie hr hq (Nat.eq_of_beq_eq_true hp.2.1) hp.2.2.1 hp.2.2.2.1 hp.2.2.2.2.1 (Nat.eq_of_beq_eq_true hp.2.2.2.2.2) h hg
       ·cases ht
      ·cases ht
     ·cases ht
    ·cases ht
   ·rename_i b off n sz lo hi' mx t t' hl hty
    split at ht
    ·rename_i i hi
     split at ht
     ·rename_i et ha
      split at ht
      ·rename_i ie hie
       split at ht
       ·rename_i kd cs hik hrow
        split at ht
        ·rename_i L hL
         split at ht
         ·rename_i hp
          simp only[Bool.and_eq_true,decide_eq_true_eq] at hp
          obtain⟨p1,p2,p3,p4,p5,p6,p7⟩:=hp
          have p1:=Nat.eq_of_beq_eq_true p1
          have p3:=Nat.eq_of_beq_eq_true p3
          subst p1 p3
          cases ht
          exact sG hT hop hc hl hty hi ha hie hrow hL p7 (Nat.eq_of_beq_eq_true p2) p4 p5 p6 h hg
         ·cases ht
        ·cases ht
       ·cases ht
      ·cases ht
     ·cases ht
    ·cases ht
   ·cases ht
  ·rename_i hc
   split at ht
   ·rename_i b off n sz l0 l1 l2 id t t' hl hty
    split at ht
    ·rename_i i hi
     split at ht
     ·rename_i et ha
      split at ht
      ·rename_i ie hie
       split at ht
       ·rename_i r hr
        split at ht
        ·rename_i kd hks
         split at ht
         ·rename_i hp
          simp only[Bool.and_eq_true,decide_eq_true_eq] at hp
          obtain⟨p1,p2,p3,p4,p5,p6⟩:=hp
          have p2:=Nat.eq_of_beq_eq_true p2
          have p4:=bH p4
          have p5:=bH p5
          have p6:=bH p6
          subst p2 p4 p5 p6
          cases ht
          exact o8 hT hop hc hl hty hi ha hie (Nat.eq_of_beq_eq_true p1) hr hks p3 h hg
         ·cases ht
        ·cases ht
       ·cases ht
      ·cases ht
     ·cases ht
    ·cases ht
   ·cases ht
  ·cases ht
 all_goals cases ht
def opKX (cx:Cx) (vw:Vw) (op:Op) (kw:Kw) (k:Eff→Kw→Tr):Tr:=match opY cx vw op kw k with
 | some t=>t
 | none=>match opX cx vw op kw k with
   | some t=>t
   | none=>opK cx vw op kw k
theorem aa5 (hT:∀t i,(t,i)∈cx.ty→TIok P t i) (hS:∀s∈cx.sm,SmOk P sp s) (hkeys:∀s∈cx.sm,∀s'∈cx.sm,s.key=s'.key→s=s') {kw:Kw} (h:(opKX cx vw o.op kw k).holds sp G ρ I) (hg:Good sp cx.sm ρ kw):Sound P sp ρ G I base cx vw o k kw:=by
 unfold opKX at h
 split at h
 ·rename_i t ht; exact acl hT ht h hg
 ·split at h
  ·rename_i t ht; exact acm hT ht h hg
  ·exact acn hT hS hkeys h hg
end
end Go.Proofs.Ytghiofgomcihcaa
