import Derived.Test.YtghiofgomcihcaaSyJ
import Derived.Orders
set_option linter.unusedVariables false
set_option linter.unusedSimpArgs false
namespace Go.Proofs.Ytghiofgomcihcaa
open Go Go.RowKit
section
variable {P:Program}
def qg (P:Program) (o:Oper) (a:Act):Prop:=∃v,∀w,(execOp a.eval o).run P w=.ok (.value v) w
theorem kK {o:Oper} {x:Operand} (h:o.op=.move x∨o.op=.assign x) (a:Act):qg P o a:=⟨a.eval x,fun w=>by rcases h with h | h<;>simp[execOp,h]⟩
theorem oY {v:Value} (hv:∀ad,v≠.pointer (some ad)) (w:World):∃x w',(Instr.sureAddr v).run P w=.halt x w':=by
 cases v with
 | pointer p=>
   cases p with
   | some ad=>exact absurd rfl (hv ad)
   | none=>exact⟨_,_,rfl⟩
 | _=>exact⟨_,_,rfl⟩
theorem tq {s f:Nat} {v:Value} (hv:∀ad,v≠.pointer (some ad)) (w:World):∃x w',(Instr.fieldAt s v f).run P w=.halt x w':=by
 unfold Instr.fieldAt
 simp only[Sem.run_bind]
 cases h:(underlying s).run P w with
 | halt x w1=>exact⟨x,w1,rfl⟩
 | ok d w1=>
   simp only[Result.andThen_ok]
   split
   ·split
    ·simp only[Sem.run_bind]
     obtain⟨x,w2,h2⟩:=oY hv w1
     rw[h2]
     exact⟨x,w2,rfl⟩
    ·exact⟨_,_,rfl⟩
   ·exact⟨_,_,rfl⟩
theorem o4 {o:Oper} {s:Nat} {x:Operand} {f:Nat} (h:o.op=.fieldAddr s x f) {i:TI} (ht:TIok P s i) {off ft:Nat} (hf:i.fields[f]? =some (off,ft)) {a:Act} {w:World} {K:Act→World→Prop} (hw:o.wp P a w K fun _ _ _=>False):qg P o a:=by
 by_cases hx:∃ad,a.eval x=.pointer (some ad)
 ·obtain⟨ad,hx⟩:=hx
  exact⟨.pointer (some (ad.add off)),fun w=>by simp[execOp,h,hx,Sem.run_bind,ht.fieldAt f off ft hf w ad]⟩
 ·exfalso
  obtain⟨y,w',h2⟩:=tq (P:=P) (s:=s) (f:=f) (v:=a.eval x) (fun ad e=>hx ⟨ad,e⟩) w
  unfold Oper.wp at hw
  simp only[execOp,h,Sem.run_bind,h2] at hw
  cases y<;>exact hw
def Alike {α:Type} (P:Program) (s:Sem α):Prop:=(∃v,∀w,s.run P w=.ok v w)∨∀w,∃x w',s.run P w=.halt x w'
theorem Alike.pure {α:Type} (a:α):Alike P (Pure.pure a:Sem α):=.inl ⟨a,fun _=>rfl⟩
theorem Alike.stuck {α:Type} (m:String):Alike P (Go.stuck m:Sem α):=.inr fun w=>⟨_,_,rfl⟩
theorem Alike.unsup {α:Type} (u:Unsupported):Alike P (Go.unsupported u:Sem α):=.inr fun w=>⟨_,_,rfl⟩
theorem Alike.bind {α β:Type} {s:Sem α} {f:α→Sem β} (h:Alike P s) (hf:∀v,Alike P (f v)):Alike P (s >>= f):=by
 rcases h with⟨v,h⟩ | h
 ·rcases hf v with⟨u,h2⟩ | h2
  ·exact .inl ⟨u,fun w=>by rw[Sem.run_bind,h]; exact h2 w⟩
  ·exact .inr fun w=>by rw[Sem.run_bind,h]; exact h2 w
 ·refine .inr fun w=> ?_
  obtain⟨x,w',h1⟩:=h w
  exact⟨x,w',by rw[Sem.run_bind,h1]; rfl⟩
theorem Alike.info (t:TypeId):Alike P (typeInfo t):=by
 cases h:P.info? t with
 | some i=>exact .inl ⟨i,fun w=>by simp[typeInfo,h]⟩
 | none=>exact .inr fun w=>⟨.stuck "no such type",w,by simp[typeInfo,h]⟩
theorem Alike.und (t:TypeId):Alike P (underlying t):=by
 cases h:P.underlying t with
 | some i=>exact .inl ⟨i,fun w=>by simp[underlying,h]⟩
 | none=>exact .inr fun w=>⟨.stuck "no such type",w,by simp[underlying,h]⟩
theorem Alike.size (t:TypeId):Alike P (sizeOf t):=(Alike.info t).bind fun _=>.pure _
theorem Alike.agg (t:TypeId):Alike P (isAgg t):=(Alike.und t).bind fun d=>by split<;>exact .pure _
theorem Alike.int (v:Value):Alike P (asIntOf v):=by
 unfold asIntOf
 split
 ·exact .pure _
 ·exact .unsup _
 ·exact .stuck _
theorem Alike.addr (v:Value):Alike P (Instr.sureAddr v):=by
 unfold Instr.sureAddr
 split
 ·exact .pure _
 ·exact .stuck _
theorem fv {α:Type} (w:World):∃x w',(runtimePanic .nilDeref:Sem α).run P w=.halt x w':=⟨_,_,rfl⟩
theorem ly {α:Type} (x y:Int) (b:Bool) (c:BoundsCode) (w:World):∃h w',(runtimePanic (.bounds x y b c):Sem α).run P w=.halt h w':=⟨_,_,rfl⟩
theorem xx {α:Type} (k:IntKind) (x y:Int) (c:BoundsCode) (w:World):∃h w',(boundsPanic k x y c:Sem α).run P w=.halt h w':=by
 unfold boundsPanic
 dsimp only
 split
 ·rw[Sem.run_bind]
  cases hq:((· ==1) <$> choose (.extern "runtime.boundsError.signed" 2)).run P w with
  | ok b w1=>exact ly _ _ b c w1
  | halt h w1=>exact⟨h,w1,rfl⟩
 ·rw[Sem.run_bind]
  exact ly _ _ _ c w
theorem Alike.bounds {α:Type} (k:IntKind) (x y:Int) (c:BoundsCode):Alike P (boundsPanic k x y c:Sem α):=.inr (xx k x y c)
theorem Alike.part (t:TypeId) (cs:Array Value) (off:Nat):Alike P (Go.part t cs off):=by
 unfold Go.part
 refine(Alike.agg t).bind fun b=> ?_
 split
 ·exact(Alike.size t).bind fun _=>.pure _
 ·split
  ·exact .pure _
  ·exact .stuck _
theorem Alike.blind:∀(l:List FieldStep) (t:TypeId) (x:Option Value),Alike P (followBlind l t x)
 | [],t,x=>.pure _
 | s::rest,t,x=>by
   unfold followBlind
   refine(Alike.und _).bind fun d=> ?_
   split
   ·split
    ·split
     ·exact .pure _
     ·exact Alike.blind rest _ _
     ·exact .stuck _
     ·exact .pure _
     ·exact(Alike.part _ _ _).bind fun _=>Alike.blind rest _ _
     ·exact .stuck _
     ·exact Alike.blind rest _ _
    ·exact .stuck _
   ·exact .stuck _
theorem Alike.nil:∀(n:Nat) (t:TypeId) (v:Value) (name:String),Alike P (nilAhead n t v name)
 | 0,t,v,name=>.pure _
 | n+1,t,v,name=>by
   unfold nilAhead
   refine(Alike.info _).bind fun i=> ?_
   split
   ·refine(Alike.blind _ _ _).bind fun r=> ?_
    split
    ·exact .pure _
    ·split
     ·exact Alike.nil n _ _ _
     ·exact .pure _
     ·exact .stuck _
     ·exact .pure _
     ·exact .pure _
     ·refine(Alike.und _).bind fun d=> ?_
      split<;>exact .pure _
   ·exact .stuck _
theorem Alike.index (t:TypeId) (x y:Value):Alike P (Instr.indexAt t x y):=by
 unfold Instr.indexAt
 refine(Alike.int y).bind fun p=> ?_
 refine(Alike.und t).bind fun d=> ?_
 dsimp only
 split
 ·refine(Alike.addr _).bind fun a=>(Alike.pure _).bind fun q=> ?_
  obtain⟨b,l,e⟩:=q
  refine(Alike.und t).bind fun d=> ?_
  dsimp only
  split
  ·split
   ·exact(Alike.size _).bind fun _=>.pure _
   ·repeat (first | exact .unsup _ | exact .bounds _ _ _ _ | split)
  ·exact .bounds _ _ _ _
 ·refine(Alike.pure _).bind fun q=> ?_
  obtain⟨b,l,e⟩:=q
  refine(Alike.und t).bind fun d=> ?_
  dsimp only
  split
  ·split
   ·exact(Alike.size _).bind fun _=>.pure _
   ·repeat (first | exact .unsup _ | exact .bounds _ _ _ _ | split)
  ·exact .bounds _ _ _ _
 ·refine(Alike.stuck _).bind fun q=> ?_
  obtain⟨b,l,e⟩:=q
  refine(Alike.und t).bind fun d=> ?_
  dsimp only
  split
  ·split
   ·exact(Alike.size _).bind fun _=>.pure _
   ·repeat (first | exact .unsup _ | exact .bounds _ _ _ _ | split)
  ·exact .bounds _ _ _ _
theorem Alike.bound (x:Value) (y:Nat) (c:BoundsCode):Alike P (Instr.sliceBound x y c):=by
 unfold Instr.sliceBound
 refine(Alike.int x).bind fun p=> ?_
 dsimp only
 split
 ·exact .pure _
 ·exact .bounds _ _ _ _
theorem Alike.bounds3 (b:Bool) (n c:Nat) (l h m:Option Value):Alike P (Instr.sliceBounds b n c l h m):=by
 unfold Instr.sliceBounds
 cases m<;>cases h<;>cases l<;>dsimp only<;>
  (repeat (first | exact .pure _ | refine Alike.bind (.pure _) fun _=> ?_ | refine Alike.bind (.bound _ _ _) fun _=> ?_ | refine Alike.bind (.stuck _) fun _=> ?_))
theorem Alike.asAddr (v:Value):Alike P (Go.asAddr v):=by
 unfold Go.asAddr
 split
 ·exact .pure _
 ·exact .inr fun w=>fv w
 ·exact .stuck _
theorem Alike.slice0 (t:TypeId) (x:Value) (l h m:Option Value):Alike P (Instr.slice t x l h m):=by
 unfold Instr.slice
 refine(Alike.und t).bind fun d=> ?_
 split
 ·dsimp only
  split
  ·exact(Alike.stuck _).bind fun _=>(Alike.bounds3 _ _ _ _ _ _).bind fun _=>.pure _
  ·exact(Alike.bounds3 _ _ _ _ _ _).bind fun _=>.pure _
 ·exact(Alike.bounds3 _ _ _ _ _ _).bind fun _=>(Alike.size _).bind fun _=>.pure _
 ·refine(Alike.asAddr _).bind fun a=>(Alike.und _).bind fun d=> ?_
  split
  ·exact(Alike.bounds3 _ _ _ _ _ _).bind fun _=>(Alike.size _).bind fun _=>.pure _
  ·exact .stuck _
 ·exact .stuck _
theorem Alike.slice (t:TypeId) (x:Value) (l h m:Option Value):Alike P (Instr.sliceAt t x l h m):=by
 unfold Instr.sliceAt
 refine(Alike.und t).bind fun d=> ?_
 split
 ·exact(Alike.addr _).bind fun _=>(Alike.bounds3 _ _ _ _ _ _).bind fun _=>(Alike.size _).bind fun _=>.pure _
 ·exact .slice0 _ _ _ _ _
theorem fe {o:Oper} {a:Act} (h:Alike P (execOp a.eval o)) (hv:∀v w w',(execOp a.eval o).run P w=.ok v w'→∃u,v=.value u) {w:World} {K:Act→World→Prop} (hw:o.wp P a w K fun _ _ _=>False):qg P o a:=by
 rcases h with⟨v,h⟩ | h
 ·obtain⟨u,rfl⟩:=hv v w w (h w)
  exact⟨u,h⟩
 ·exfalso
  obtain⟨x,w',h2⟩:=h w
  unfold Oper.wp at hw
  rw[h2] at hw
  cases x<;>exact hw
theorem o3 {o:Oper} {t:Nat} {x y:Operand} (h:o.op=.indexAddr t x y) {a:Act} {w:World} {K:Act→World→Prop} (hw:o.wp P a w K fun _ _ _=>False):qg P o a:=by
 refine fe ?_ (fun v w w' hv=> ?_) hw
 ·simp only[execOp,h]
  exact(Alike.index _ _ _).bind fun _=>.pure _
 ·simp only[execOp,h,Sem.run_bind] at hv
  cases hq:(Instr.indexAt t (a.eval x) (a.eval y)).run P w with
  | ok u w1=>rw[hq] at hv; cases hv; exact⟨u,rfl⟩
  | halt u w1=>rw[hq] at hv; cases hv
theorem oZ {o:Oper} {t:Nat} {x:Operand} {l h' m:Option Operand} (h:o.op=.slice t x l h' m) {a:Act} {w:World} {K:Act→World→Prop} (hw:o.wp P a w K fun _ _ _=>False):qg P o a:=by
 refine fe ?_ (fun v w w' hv=> ?_) hw
 ·simp only[execOp,h]
  exact(Alike.slice _ _ _ _ _).bind fun _=>.pure _
 ·simp only[execOp,h,Sem.run_bind] at hv
  revert hv
  generalize (Instr.sliceAt _ _ _ _ _).run P w=r
  intro hv
  cases r with
  | ok u w1=>cases hv; exact⟨u,rfl⟩
  | halt u w1=>cases hv
theorem uy {o:Oper} {x:Operand} (h:o.op=.nilCheck x) {a:Act} {w:World} {K:Act→World→Prop} (hw:o.wp P a w K fun _ _ _=>False):qg P o a:=by
 have nd:Alike P (runtimePanic .nilDeref:Sem Next):=.inr fun w=>fv w
 refine fe ?_ (fun v w w' hv=> ?_) hw
 ·simp only[execOp,h]
  split
  ·exact nd
  ·exact nd
  ·exact nd
  ·split
   ·exact nd
   ·refine Alike.bind (.inl ⟨P,fun _=>rfl⟩) fun p=> ?_
    refine(Alike.nil _ _ _ _).bind fun r=> ?_
    split
    ·exact Alike.bind (.unsup _) fun _=>.pure _
    ·exact .pure _
   ·exact .pure _
  ·exact .pure _
 ·have no:∀{w1:World},(runtimePanic .nilDeref:Sem Next).run P w1=.ok v w'→False:=fun {w1} h=>by
   obtain⟨x,w2,e⟩:=fv (P:=P) (α:=Next) w1
   rw[e] at h; cases h
  simp only[execOp,h] at hv
  split at hv
  ·exact(no hv).elim
  ·exact(no hv).elim
  ·exact(no hv).elim
  ·split at hv
   ·exact(no hv).elim
   ·simp only[Sem.run_bind,run_program,Result.andThen_ok] at hv
    revert hv
    generalize (nilAhead _ _ _ _).run P w=r
    intro hv
    cases r with
    | halt x w1=>cases hv
    | ok b w1=>
      simp only[Result.andThen_ok] at hv
      split at hv
      ·cases hv
      ·cases hv; exact⟨_,rfl⟩
   ·cases hv; exact⟨_,rfl⟩
  ·cases hv; exact⟨_,rfl⟩
end
def bu (sel:Nat→Bool):List (Nat×Rec)→FS→FS
 | [],F=>F
 | p::l,F=>bu sel l (if sel p.1 then F.rec' p.2 else F)
def kE (l:List (Nat×Rec)) (F:FS):FS:=l.foldl (fun F p=>F.rec' p.2) F
def cnt (ops:Array Oper) (l:Array Bool):Nat:=(List.range ops.size).countP fun i=>!l.getD i false
def xJ (ops:Array Oper) (k i:Nat):Prop:=∀sel,dd ops sel→(∀o,ops[i]? =some o→∀e∈o.after,Region.binds .any e=true→sel e.on=true)→sel k=true
section
variable {P:Program} {ρ:Env} {n:Nat} {X:List Value} {W0:Wb} {fb:Nat→Option (List C)} {ops:Array Oper} {ro:Option Nat}
theorem dZ (sel:Nat→Bool):∀(l m:List (Nat×Rec)) (F:FS),bu sel (l++m) F=bu sel m (bu sel l F)
 | [],m,F=>rfl
 | p::l,m,F=>by simp only[List.cons_append,bu]; exact dZ sel l m _
theorem gV {sel:Nat→Bool}:∀(l:List (Nat×Rec)) (F:FS),(∀p∈l,sel p.1=true)→bu sel l F=kE l F
 | [],_,_=>rfl
 | p::l,F,h=>by
   simp only[bu,h p List.mem_cons_self,if_true,kE,List.foldl_cons]
   exact gV l _ (fun q hq=>h q (List.mem_cons_of_mem _ hq))
theorem kR {sel:Nat→Bool}:∀(l:List (Nat×Rec)) (F:FS),(∀p∈l,sel p.1=false)→bu sel l F=F
 | [],_,_=>rfl
 | p::l,F,h=>by
   simp only[bu,h p List.mem_cons_self]
   exact kR l _ (fun q hq=>h q (List.mem_cons_of_mem _ hq))
theorem fl {sel sel':Nat→Bool}:∀(l:List (Nat×Rec)) (F:FS),(∀p∈l,sel p.1=sel' p.1)→bu sel l F=bu sel' l F
 | [],_,_=>rfl
 | p::l,F,h=>by
   simp only[bu,h p List.mem_cons_self]
   exact fl l _ (fun q hq=>h q (List.mem_cons_of_mem _ hq))
theorem il {r:Rec} {sel:Nat→Bool}:∀(l:List (Nat×Rec)) (F F':FS),Agree ops r F F'→(∀p∈l,sel p.1=false→Indep ops p.2 r)→Agree ops r (kE l F) (bu sel l F')
 | [],_,_,h,_=>h
 | x::l,F,F',h,hi=>by
   simp only[kE,List.foldl_cons,bu]
   have tail:∀p∈l,sel p.1=false→Indep ops p.2 r:=fun p hp=>hi p (List.mem_cons_of_mem _ hp)
   by_cases hs:sel x.1=true
   ·simp only[hs,if_true]
    exact il l _ _ h.congr tail
   ·simp only[hs]
    exact il l _ _ (((Agree.step (hi x List.mem_cons_self (by simpa using hs)) F).symm).trans h) tail
theorem fC {r:Rec} {sel:Nat→Bool}:∀(l:List (Nat×Rec)) (F F':FS),Agree ops r F F'→(∀p∈l,sel p.1=true→Indep ops p.2 r)→Agree ops r F (bu sel l F')
 | [],_,_,h,_=>h
 | x::l,F,F',h,hi=>by
   simp only[bu]
   have tail:∀p∈l,sel p.1=true→Indep ops p.2 r:=fun p hp=>hi p (List.mem_cons_of_mem _ hp)
   by_cases hs:sel x.1=true
   ·simp only[hs,if_true]
    exact fC l _ _ (h.trans (Agree.step (hi x List.mem_cons_self hs) F')) tail
   ·simp only[hs]
    exact fC l _ _ h tail
theorem jU {r:Rec} {sel:Nat→Bool}:∀(l:List (Nat×Rec)) (F:FS),(∀p∈l,sel p.1=true→Indep ops p.2 r)→bu sel l (F.rec' r)=(bu sel l F).rec' r
 | [],_,_=>rfl
 | x::l,F,hi=>by
   simp only[bu]
   have tail:∀p∈l,sel p.1=true→Indep ops p.2 r:=fun p hp=>hi p (List.mem_cons_of_mem _ hp)
   by_cases hs:sel x.1=true
   ·simp only[hs,if_true]
    rw[←ra (hi x List.mem_cons_self hs)]
    exact jU l _ tail
   ·simp only[hs]
    exact jU l _ tail
structure Float (P:Program) (ops:Array Oper) (sel:Nat→Bool) (i:Nat) (o:Oper):Prop where
 still:∀a w K,o.wp P a w K (fun _ _ _=>False)→qg P o a
 guard:o.guard=none
 nosel:Region.noSelect ops=true
 free:∀(k:Nat) ok,ops[k]? =some ok→k≠i→sel k=false→(∀e∈ok.after,Region.binds .any e=true→e.on≠i)→o.apart ops ok=true
def xZ (base:Nat→Bool) (L:List (Nat×Rec)) (i:Nat) (k:Nat):Bool:=base k||L.any fun q=>Nat.beq q.1 k&&Nat.blt k i
theorem ia {listed:Array Bool} {i:Nat} (hs:listed.size=ops.size) (hi:i<ops.size) (hun:listed.getD i false=false):cnt ops (listed.setIfInBounds i true)<cnt ops listed:=by
 have hget:∀k,(listed.setIfInBounds i true).getD k false=if k=i then true else listed.getD k false:=by
  intro k
  rw[Array.getD_eq_getD_getElem?,Array.getElem?_setIfInBounds]
  by_cases hk:k=i
  ·subst hk; simp[hs,hi]
  ·have hik:¬i=k:=fun e=>hk e.symm
   simp[hk,hik,Array.getD_eq_getD_getElem?]
 unfold cnt
 have e1:(List.range ops.size)=List.range i++i::(List.range' (i+1) (ops.size-(i+1))):=by
  have h1:i::List.range' (i+1) (ops.size-(i+1))=List.range' i (ops.size-i):=by
   rw[show ops.size-i=(ops.size-(i+1))+1 by omega,List.range'_succ]
  have h2:=List.range'_append_1 (s:=0) (m:=i) (n:=ops.size-i)
  rw[Nat.zero_add,show i+(ops.size-i)=ops.size by omega] at h2
  rw[h1,List.range_eq_range',List.range_eq_range',h2]
 rw[e1,List.countP_append,List.countP_append,List.countP_cons,List.countP_cons]
 have c1:∀l:List Nat,i ∉ l→l.countP (fun k=>!(listed.setIfInBounds i true).getD k false)=l.countP (fun k=>!listed.getD k false):=by
  intro l hl'
  apply List.countP_congr
  intro k hk
  have:k≠i:=fun e=>hl' (e▸hk)
  simp only[hget,this,if_false]
 rw[c1 _ (by simp),c1 _ (by rw[List.mem_range'_1]; omega)]
 simp[hget,hun]
theorem ib {listed:Array Bool} {i:Nat} {o:Oper} (hs:listed.size=ops.size) (ho:ops[i]? =some o) (hc:dd ops (fun i=>listed.getD i false)) (hall:∀e∈o.after,Region.binds .any e=true→listed.getD e.on false=true):
  dd ops (fun k=>(listed.setIfInBounds i true).getD k false):=by
 have hi:i<ops.size:=(Array.getElem?_eq_some_iff.1 ho).1
 intro k o' hk hsel e he hb
 by_cases hki:k=i
 ·subst hki
  rw[ho] at hk; cases hk
  exact getD_set_true (hall e he hb)
 ·dsimp only at hsel
  rw[getD_set_ne false (Ne.symm hki)] at hsel
  exact getD_set_true (hc k o' hk hsel e he hb)
theorem aaq {L:List (Nat×Rec)} {F0:FS} {base:Nat→Bool} {Q:Exit→Act→World→Prop} (hQ:∀c a w,¬Q (.panic c) a w) (hdf:∀(j:Nat) (o:Oper) c,ops[j]? =some o→o.op≠.defer c)
  (hop:∀p∈L,ops[p.1]? =some p.2.o) (hnd:(L.map (·.1)).Nodup)
  (hr:∀(m:Nat) p,L[m]? =some p→RecOk P ρ n W0.heap.size fb ops p.2 (kE (L.take m) F0))
  (hpair:∀(m q:Nat) x r,m<q→L[m]? =some x→L[q]? =some r→Indep ops x.2 r.2∨xJ ops x.1 r.1)
  (hback:∀p∈L,∀e∈p.2.o.after,Region.binds .any e=true→e.on<p.1∧(base e.on=true∨∃q∈L,q.1=e.on))
  (hout:∀i,i<ops.size→base i=false→(∀p∈L,p.1≠i)→∀p∈L,Float P ops (xZ base L p.1) p.1 p.2.o∨xJ ops p.1 i)
  (hend:∀(listed:Array Bool) (j:J) (a:Act) (w:World),listed.size=ops.size→dd ops (fun i=>listed.getD i false)→(∀i,listed.getD i false=true↔(base i=true∨∃p∈L,p.1=i))→
   Rel ρ n X W0 fb (kE L F0) j a w→∀fuel,cnt ops listed≤fuel→wpAnyIn (Fw ro) 0 P .any ops Q fuel listed a w):
  ∀(N:Nat) (listed:Array Bool) (j:J) (a:Act) (w:World),L.countP (fun p=>!listed.getD p.1 false)≤N→listed.size=ops.size→dd ops (fun i=>listed.getD i false)→
   (∀i,listed.getD i false=true→base i=true∨∃p∈L,p.1=i)→(∀i,base i=true→listed.getD i false=true)→
   Rel ρ n X W0 fb (bu (fun i=>listed.getD i false) L F0) j a w→∀fuel,cnt ops listed≤fuel→wpAnyIn (Fw ro) 0 P .any ops Q fuel listed a w:=by
 have all_or:∀(listed:Array Bool),(∀p∈L,listed.getD p.1 false=true)∨∃p∈L,listed.getD p.1 false=false∧∀q∈L,listed.getD q.1 false=false→p.1≤q.1:=by
  intro listed
  by_cases h:∃p∈L,listed.getD p.1 false=false
  ·right
   have key:∀(k:Nat),(∃p∈L,listed.getD p.1 false=false∧p.1≤k)→∃p∈L,listed.getD p.1 false=false∧∀q∈L,listed.getD q.1 false=false→p.1≤q.1:=by
    intro k
    induction k using Nat.strongRecOn with
    | _ k ih=>
      rintro ⟨p,hp,hu,hk⟩
      by_cases hm:∃q∈L,listed.getD q.1 false=false∧q.1<p.1
      ·obtain⟨q,hq,hqu,hlt⟩:=hm
       exact ih q.1 (by omega) ⟨q,hq,hqu,Nat.le_refl _⟩
      ·refine⟨p,hp,hu,fun q hq hqu=> ?_⟩
       rcases Nat.lt_or_ge q.1 p.1 with h1 | h1
       ·exact absurd ⟨q,hq,hqu,h1⟩ hm
       ·exact h1
   obtain⟨p,hp,hu⟩:=h
   exact key p.1 ⟨p,hp,hu,Nat.le_refl _⟩
  ·left
   intro p hp
   cases hb:listed.getD p.1 false with
   | true=>rfl
   | false=>exact absurd ⟨p,hp,hb⟩ h
 have idx:∀{p q:Nat×Rec},p∈L→q∈L→p.1=q.1→p=q:=by
  intro p q hp hq e
  obtain⟨m,hm⟩:=List.getElem?_of_mem hp
  obtain⟨m',hm'⟩:=List.getElem?_of_mem hq
  have h1:(L.map (·.1))[m]? =some p.1:=by rw[List.getElem?_map,hm]; rfl
  have h2:(L.map (·.1))[m']? =some p.1:=by rw[List.getElem?_map,hm',e]; rfl
  have:m=m':=(List.getElem?_inj (List.getElem?_eq_some_iff.1 h1).1 hnd).1 (h1.trans h2.symm)
  subst this
  rw[hm] at hm'
  cases hm'
  rfl
 intro N
 induction N with
 | zero=>
   intro listed j a w hN hs hc hsub hbase h fuel hf
   have hall:∀p∈L,listed.getD p.1 false=true:=fun p hp=>by
    have:=List.countP_eq_zero.1 (Nat.le_zero.1 hN) p hp
    simpa using this
   rw[gV L F0 hall] at h
   exact hend listed j a w hs hc (fun i=>⟨hsub i,fun h=>by
    rcases h with h | ⟨p,hp,rfl⟩
    ·exact hbase i h
    ·exact hall p hp⟩) h fuel hf
 | succ N ih=>
   intro listed j a w hN hs hc hsub hbase h fuel hf
   rcases all_or listed with hall | ⟨p0,hp0,hu0,hmin⟩
   ·rw[gV L F0 hall] at h
    exact hend listed j a w hs hc (fun i=>⟨hsub i,fun h=>by
    rcases h with h | ⟨p,hp,rfl⟩
    ·exact hbase i h
    ·exact hall p hp⟩) h fuel hf
   have gd:∀i,i<ops.size→listed.getD i true=listed.getD i false:=fun i hi=>by
    rw[Array.getD_eq_getD_getElem?,Array.getD_eq_getD_getElem?,Array.getElem?_eq_getElem (by omega)]; rfl
   have lt0:p0.1<ops.size:=(Array.getElem?_eq_some_iff.1 (hop p0 hp0)).1
   have ready0:p0.1∈Region.ready .any ops listed:=by
    rw[mem_ready]
    refine⟨by rw[gd _ lt0]; exact hu0,p0.2.o,hop p0 hp0,fun e he hb=> ?_⟩
    obtain⟨h1,h2⟩:=hback p0 hp0 e he hb
    rcases h2 with h2 | ⟨q,hq,e1⟩
    ·exact hbase _ h2
    ·cases hb2:listed.getD e.on false with
     | true=>rfl
     | false=>
       have:=hmin q hq (by rw[e1]; exact hb2)
       omega
   obtain⟨fuel,rfl⟩:∃f,fuel=f+1:=by
    cases fuel with
    | zero=>have:=ia (ops:=ops) hs lt0 hu0; omega
    | succ f=>exact⟨f,rfl⟩
   have step:∀p∈L,listed.getD p.1 false=false→(∀e∈p.2.o.after,Region.binds .any e=true→listed.getD e.on false=true)→
    RecOk P ρ n W0.heap.size fb ops p.2 (bu (fun i=>listed.getD i false) L F0)∧
    ∀j' a' w',Rel ρ n X W0 fb ((bu (fun i=>listed.getD i false) L F0).rec' p.2) j' a' w'→wpAnyIn (Fw ro) 0 P .any ops Q fuel (listed.setIfInBounds p.1 true) a' w':=by
    intro p hp hun hall
    obtain⟨m,hm⟩:=List.getElem?_of_mem hp
    have hml:m<L.length:=(List.getElem?_eq_some_iff.1 hm).1
    have hsplit:L=L.take m++p::L.drop (m+1):=by
     rw[List.getElem?_eq_getElem hml] at hm
     cases hm
     simp
    have hpre:∀q∈L.take m,listed.getD q.1 false=false→Indep ops q.2 p.2:=by
     intro q hq hsel
     obtain⟨k,hk⟩:=List.getElem?_of_mem hq
     have hkm:k<m:=by
      have:=(List.getElem?_eq_some_iff.1 hk).1
      rw[List.length_take] at this
      omega
     rw[List.getElem?_take_of_lt hkm] at hk
     rcases hpair k m q p hkm hk hm with h1 | h1
     ·exact h1
     ·exfalso
      have:=h1 (fun i=>listed.getD i false) hc (fun o' ho2 e he hb=>by
       rw[hop p hp] at ho2; cases ho2
       exact hall e he hb)
      (try dsimp only at this)
      rw[hsel] at this
      cases this
    have hpost:∀q∈L.drop (m+1),listed.getD q.1 false=true→Indep ops q.2 p.2:=by
     intro q hq hsel
     obtain⟨k,hk⟩:=List.getElem?_of_mem hq
     rw[List.getElem?_drop] at hk
     rcases hpair m (m+1+k) p q (by omega) hm hk with h1 | h1
     ·exact h1.symm
     ·exfalso
      have:=h1 (fun i=>listed.getD i false) hc (fun o' ho2 e he hb=>hc q.1 o' ho2 hsel e he hb)
      (try dsimp only at this)
      rw[hun] at this
      cases this
    have hF:bu (fun i=>listed.getD i false) L F0=bu (fun i=>listed.getD i false) (L.drop (m+1)) (bu (fun i=>listed.getD i false) (L.take m) F0):=by
     conv=>lhs; rw[hsplit]
     rw[dZ]
     simp only[bu,hun]
     rfl
    have hag:Agree ops p.2 (kE (L.take m) F0) (bu (fun i=>listed.getD i false) L F0):=by
     rw[hF]
     exact fC _ _ _ (il _ _ _ (Agree.refl ops p.2 F0) hpre) hpost
    refine⟨(hr m p hm).agree hag,fun j' a' w' h'=> ?_⟩
    have hpi:p.1<ops.size:=(Array.getElem?_eq_some_iff.1 (hop p hp)).1
    have hget:∀k,(listed.setIfInBounds p.1 true).getD k false=if k=p.1 then true else listed.getD k false:=by
     intro k
     rw[Array.getD_eq_getD_getElem?,Array.getElem?_setIfInBounds]
     by_cases hk:k=p.1
     ·subst hk; simp[hs,hpi]
     ·have hik:¬p.1=k:=fun e=>hk e.symm
      simp[hk,hik,Array.getD_eq_getD_getElem?]
    have notin:∀q,q∈L.take m∨q∈L.drop (m+1)→q.1≠p.1:=by
     intro q hq e
     have hqL:q∈L:=by
      rcases hq with hq | hq
      ·exact List.mem_of_mem_take hq
      ·exact List.mem_of_mem_drop hq
     have e2:=idx hqL hp e
     subst e2
     have hnd':=hnd
     rw[hsplit,List.map_append,List.map_cons] at hnd'
     rw[List.nodup_append] at hnd'
     obtain⟨_,h2,h3⟩:=hnd'
     rcases hq with hq | hq
     ·exact h3 _ (List.mem_map.2 ⟨q,hq,rfl⟩) _ List.mem_cons_self rfl
     ·exact(List.nodup_cons.1 h2).1 (List.mem_map.2 ⟨q,hq,rfl⟩)
    refine ih (listed.setIfInBounds p.1 true) j' a' w' ?_ (by simp[hs]) (ib hs (hop p hp) hc hall) (fun i hi=> ?_) (fun i hi=>getD_set_true (hbase i hi)) ?_ fuel (by have:=ia (ops:=ops) hs hpi hun; omega)
    ·have:L.countP (fun q=>!(listed.setIfInBounds p.1 true).getD q.1 false)<L.countP (fun q=>!listed.getD q.1 false):=by
      rw[hsplit,List.countP_append,List.countP_append,List.countP_cons,List.countP_cons]
      have c1:∀l:List (Nat×Rec),(∀q∈l,q.1≠p.1)→l.countP (fun q=>!(listed.setIfInBounds p.1 true).getD q.1 false)=l.countP (fun q=>!listed.getD q.1 false):=by
       intro l hl'
       apply List.countP_congr
       intro q hq
       simp only[hget,hl' q hq,if_false]
      rw[c1 _ (fun q hq=>notin q (.inl hq)),c1 _ (fun q hq=>notin q (.inr hq))]
      simp[hget,hun]
     omega
    ·rw[hget] at hi
     split at hi
     ·rename_i e; subst e; exact .inr ⟨p,hp,rfl⟩
     ·exact hsub i hi
    ·have:bu (fun k=>(listed.setIfInBounds p.1 true).getD k false) L F0=(bu (fun i=>listed.getD i false) L F0).rec' p.2:=by
      rw[hF]
      conv=>lhs; rw[hsplit]
      rw[dZ]
      simp only[bu,hget,if_true]
      rw[fl (sel':=fun i=>listed.getD i false) (L.take m) F0 (fun q hq=>by
       simp[notin q (.inl hq)])]
      rw[fl (sel':=fun i=>listed.getD i false) (L.drop (m+1)) _ (fun q hq=>by
       simp[notin q (.inr hq)])]
      exact jU _ _ hpost
     rw[this]
     exact h'
   by_cases hfl:Float P ops (xZ base L p0.1) p0.1 p0.2.o
   ·
    obtain⟨hrec,hgo⟩:=step p0 hp0 hu0 (fun e he hb=>by
     obtain⟨_,o,ho,hall⟩:=mem_ready.1 ready0
     rw[hop p0 hp0] at ho; cases ho
     exact hall e he hb)
    have hwnt:p0.2.want=true:=by
     rw[←qY h hrec]
     simp[Region.wanted,hfl.guard]
    have h1:=we (Q:=fun _ _ _=>False) h hrec hwnt (K:=fun a' w'=>∃j',Rel ρ n X W0 fb ((bu (fun i=>listed.getD i false) L F0).rec' p0.2) j' a' w') (fun j' a' w' h'=>⟨j',h'⟩)
    have hwant:Region.wanted p0.2.o (yielded ops a.tmps)=true:=by simp[Region.wanted,hfl.guard]
    ·obtain⟨v,hv⟩:=hfl.still a w _ h1
     have h2:=h1
     unfold Oper.wp at h2
     rw[hv w] at h2
     obtain⟨j',h3⟩:∃j',Rel ρ n X W0 fb ((bu (fun i=>listed.getD i false) L F0).rec' p0.2) j' (a.put p0.2.o.dst v) w:=h2
     refine lF (hop p0 hp0) (Region.noSelect_spec hfl.nosel) hdf (fun c a w h=>absurd h (hQ c _ w)) fuel listed a w (fun k ok hk hne hun hno=> ?_) ready0 (.inl ⟨hwant,hv⟩) (hgo j' _ w h3)
     refine hfl.free k ok hk hne ?_ hno
     have hkl:k<ops.size:=(Array.getElem?_eq_some_iff.1 hk).1
     rw[gd k hkl] at hun
     cases hsk:xZ base L p0.1 k with
     | false=>rfl
     | true=>
       exfalso
       simp only[xZ,Bool.or_eq_true,List.any_eq_true,Bool.and_eq_true,Nat.blt_eq] at hsk
       rcases hsk with h4 | ⟨q,hq,h4,h5⟩
       ·rw[hbase k h4] at hun; cases hun
       ·have e1:=Nat.eq_of_beq_eq_true h4
        have:=hmin q hq (by rw[e1]; exact hun)
        omega
   ·refine⟨fun hnil=>(by rw[hnil] at ready0; cases ready0),fun i hi=> ?_⟩
    obtain⟨hun,o,ho,hall⟩:=mem_ready.1 hi
    have hi':i<ops.size:=(Array.getElem?_eq_some_iff.1 ho).1
    rw[gd i hi'] at hun
    have hin:∃p∈L,p.1=i:=by
     by_cases hh:∃p∈L,p.1=i
     ·exact hh
     ·exfalso
      have hb:base i=false:=by
       cases hb:base i with
       | false=>rfl
       | true=>rw[hbase i hb] at hun; cases hun
      rcases hout i hi' hb (fun p hp e=>hh ⟨p,hp,e⟩) p0 hp0 with h1 | h1
      ·exact hfl h1
      ·have:=h1 (fun i=>listed.getD i false) hc (fun o' ho2 e he hb2=>by
        rw[ho] at ho2; cases ho2
        exact hall e he hb2)
       (try dsimp only at this)
       rw[hu0] at this
       cases this
    obtain⟨p,hp,rfl⟩:=hin
    rw[hop p hp] at ho; cases ho
    obtain⟨hrec,hgo⟩:=step p hp hun hall
    exact ey h hrec (hop p hp) (fun j' a' w' h'=>hgo j' a' w' h')
end
end Go.Proofs.Ytghiofgomcihcaa
