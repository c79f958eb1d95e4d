import Derived.Test.YtghiofgomcihcaaSyI
import Derived.Test.YtghiofgomcihcaaSyZh
import Derived.OrdersIn
import Derived.LoopNIn
import Derived.Orders
import Derived.RangeFuncLeaves
set_option linter.unusedVariables false
set_option linter.unusedSimpArgs false
namespace Go.Proofs.Ytghiofgomcihcaa
open Go Go.RowKit
def Fw (ro:Option Nat):Fence:={Fence.wide with round:=ro}
section
variable {P:Program} {ro:Option Nat} {n:Nat} {ops:Array Oper} {Q:Exit→Act→World→Prop}
theorem rT {p:Prop}:(Fw ro).depth.isSome=true→p:=fun h=>by cases h
theorem eI {f:FuncId} {args:Array Value} {w:World} {R:Ending→World→Prop}:CallsIn (Fw ro) n P f args w R↔Calls P f args w R:= @callsIn_wide n P f args w R
theorem gC {m m':Machine}:StepsIn (Machine.fenced P (Fw ro)) P m m'↔Steps P m m':= @stepsIn_wide P m m'
theorem eu {o:Oper} {a:Act} {w:World} {K:Act→World→Prop} (hnd:∀c,o.op≠.defer c) (h:o.wp P a w K Q):o.wpIn (Fw ro) n P a w K Q:=by
 refine⟨fun _ _=>trivial,?_⟩
 rw[Oper.semAt_eq _ _ _ hnd]
 unfold Oper.wp at h
 generalize (execOp a.eval o).run P w=r at *
 cases r with
 | ok x w'=>
   cases x with
   | value v=>exact h
   | skip=>exact h
   | defer d=>exact h
   | enter f args=>exact⟨rT,eI.2 h⟩
   | row row args=>
     refine⟨rT,fun c cs hr=> ?_⟩
     obtain⟨v,w'',h1,h2⟩:=h c cs
     exact⟨v,w'',h1,gC.2 h2⟩
   | _=>exact h.elim
 | halt x w'=>cases x<;>first | exact h | exact h.elim
theorem yJ {o:Oper} {a:Act} {w:World} (h:o.wp P a w (fun a' _=>a'.defers=a.defers) (fun _ _ _=>False)):∀c,o.op≠.defer c:=by
 intro c hc
 unfold Oper.wp at h
 have:∃r:Result Deferred,(execOp a.eval o).run P w=r.andThen fun d w=>.ok (.defer d) w:=⟨(resolve a.eval c o.type).run P w,by simp only[execOp,hc,Sem.run_bind,Sem.run_pure]⟩
 obtain⟨r,hr⟩:=this
 rw[hr] at h
 cases r with
 | ok d w'=>
   have h1:({a with defers:=d::a.defers}.put o.dst Go.undef).defers=a.defers:=h
   have h2:({a with defers:=d::a.defers}.put o.dst Go.undef).defers=d::a.defers:=by unfold Act.put; split<;>rfl
   rw[h2] at h1
   have:=congrArg List.length h1
   simp at this
 | halt x w'=>cases x<;>exact h
theorem eZ {c:Code} {a:Act} {w:World} (h:c.wpIn (Fw ro) n P (Exit.noGoto Q) a w):(Code.scope c).wpIn (Fw ro) n P Q a w:=by
 intro b k cs hro hb hr
 obtain⟨e,a₁,w₁,hq,harr⟩:=h b (.inScope c::k) cs hro hb hr
 have s1:step P (lone (b.atR a (.code (.scope c)::k)) cs w)=.next (lone (b.atR a (.code c::.inScope c::k)) cs w):=step_lone_go (by simp[stepG,stepG.exec,Frame.atR])
 have s2:∀a w,step P (lone (b.atR a (.inScope c::k)) cs w)=.next (lone (b.atR a k) cs w):=fun a w=>step_lone_go (by simp[stepG,stepG.exec,Frame.atR])
 have S1:StepsIn (Machine.fenced P (Fw ro)) P (lone (b.atR a (.code (.scope c)::k)) cs w) (lone (b.atR a (.code c::.inScope c::k)) cs w):=gC.2 (.one s1)
 cases e with
 | normal=>exact⟨.normal,a₁,w₁,hq,S1.trans (StepsIn.trans harr (gC.2 (.one (s2 _ _))))⟩
 | exit id=>
   have hx:exitTo id (.inScope c::k)=exitTo id k:=by simp[exitTo]
   exact⟨.exit id,a₁,w₁,hq,fun k' hk=>S1.trans (harr.1 k' (by rw[hx]; exact hk)),fun hr' hk=>let⟨k₁,h1,h2⟩:=harr.2 hr' (by rw[hx]; exact hk); ⟨k₁,h1,S1.trans h2⟩⟩
 | goto l=>exact hq.elim
 | ret=>exact⟨_,a₁,w₁,hq,.of_steps S1 harr⟩
 | panic ch=>exact⟨_,a₁,w₁,hq,.of_steps S1 harr⟩
 | outgrown=>exact⟨_,a₁,w₁,hq,.of_steps S1 harr⟩
theorem sx {o:Oper} {a:Act} {w:World} {K:Act→World→Prop} {Q':Exit→Act→World→Prop} (h:∀e a w,Q e a w→Q' e a w) (hh:o.wpIn (Fw ro) n P a w K Q):o.wpIn (Fw ro) n P a w K Q':=by
 unfold Oper.wpIn at *
 refine⟨hh.1,?_⟩
 have hh:=hh.2
 generalize (o.semAt (Fw ro).round a.eval).run P w=r at *
 cases r with
 | ok x w'=>
   cases x<;>simp only[Oper.uponIn] at hh ⊢ <;>
    first
     | exact hh
     | exact⟨hh.1,CallsIn.mono hh.2 (fun e w'' he=>by cases e<;>first | exact he | exact h _ _ _ he | exact(let⟨a,w,q⟩:=he; ⟨a,w,h _ _ _ q⟩))⟩
     | exact⟨hh.1,RoundIn.mono hh.2 (fun e w'' he=>by cases e<;>first | exact he | exact h _ _ _ he | exact(let⟨a,w,q⟩:=he; ⟨a,w,h _ _ _ q⟩))⟩
 | halt x w'=>cases x<;>simp only[Oper.uponIn] at hh ⊢ <;>first | exact h _ _ _ hh | exact hh
theorem mS {i:Nat} {a:Act} {w:World} {K:Act→World→Prop} {Q':Exit→Act→World→Prop} (h:∀e a w,Q e a w→Q' e a w) (hh:wpOpIn (Fw ro) n P ops Q i K a w):wpOpIn (Fw ro) n P ops Q' i K a w:=by
 unfold wpOpIn at *
 split
 ·rename_i ho; simpa[ho] using hh
 ·rename_i o ho
  simp only[ho] at hh
  split
  ·rename_i hw; simp only[hw,if_true] at hh; exact sx h hh
  ·rename_i hw; simp only[hw] at hh; exact hh
theorem fF {Q':Exit→Act→World→Prop} (h:∀e a w,Q e a w→Q' e a w):∀(fuel:Nat) (listed:Array Bool) (a:Act) (w:World),wpAnyIn (Fw ro) n P .any ops Q fuel listed a w→wpAnyIn (Fw ro) n P .any ops Q' fuel listed a w
 | 0,listed,a,w,hh=>⟨hh.1,h _ _ _ hh.2⟩
 | fuel+1,listed,a,w,hh=>⟨fun hr=>h _ _ _ (hh.1 hr),fun i hi=>mS h (wpOpIn_mono (fun a w q=>fF h fuel _ a w q) (hh.2 i hi))⟩
theorem fE {i:Nat} {o:Oper} {v:Value} {a:Act} (hnd:∀c,o.op≠.defer c) (hi:ops[i]? =some o) (hy:Yields P ops o v a)
  {K:Act→World→Prop} {w:World} (h:K (a.put o.dst v) w):wpOpIn (Fw ro) n P ops Q i K a w:=by
 unfold Go.wpOpIn
 simp only[hi]
 rcases hy with⟨hw,hv⟩ | ⟨hw,rfl⟩
 ·simp only[hw,if_true,Oper.wpIn,Oper.semAt_eq _ _ _ hnd,hv w,Oper.uponIn]; exact⟨fun _ _=>trivial,h⟩
 ·simp only[hw,Bool.false_eq_true,if_false]; exact⟨fun _ _=>trivial,h⟩
theorem su {j:Nat} {oi oj:Oper} {v:Value} (hj:ops[j]? =some oj) (hap:oi.apart ops oj=true)
  (hsi:∀cs b,oi.op≠.select cs b) (hsj:∀cs b,oj.op≠.select cs b) (hndj:∀c,oj.op≠.defer c)
  (hQ:∀c a w,Q (.panic c) (a.put oi.dst v) w→Q (.panic c) a w) {K:Act→World→Prop} {a:Act} {w:World}
  (hy:Yields P ops oi v a) (h:wpOpIn (Fw ro) n P ops Q j K (a.put oi.dst v) w):
  wpOpIn (Fw ro) n P ops Q j (fun a' w'=>Yields P ops oi v a'∧K (a'.put oi.dst v) w') a w:=by
 obtain⟨h1,h2,h3⟩:=Oper.apart_spec hap
 have keep:∀(a:Act),Yields P ops oi v a→∀u,Yields P ops oi v (a.put oj.dst u):=fun a hy u=>
  hy.of_same (execOp_put oi hsi a oj.dst u h3) (wanted_put oi a oj.dst u h3)
 have keepD:∀d,Yields P ops oi v {a with defers:=d::a.defers}:=fun d=>hy.of_same rfl rfl
 unfold wpOpIn at *
 simp only[hj] at *
 rw[wanted_put oj a oi.dst v h1] at h
 split
 ·rename_i hw
  simp only[hw,if_true] at h
  unfold Oper.wpIn at *
  refine⟨fun _ _=>trivial,?_⟩
  have h:=h.2
  rw[Oper.semAt_eq _ _ _ hndj,execOp_put oj hsj a oi.dst v h1] at h
  rw[Oper.semAt_eq _ _ _ hndj]
  generalize (execOp a.eval oj).run P w=r at *
  cases r with
  | ok x w'=>
    cases x<;>simp only[Oper.uponIn] at h ⊢
    case value u=>exact⟨keep a hy u,by rw[←Act.put_comm a v u h2]; exact h⟩
    case skip=>exact⟨keep a hy _,by rw[←Act.put_comm a v undef h2]; exact h⟩
    case defer d=>
     refine⟨keep _ (keepD d) _,?_⟩
     rw[←Act.put_comm _ v undef h2,←Act.put_defers]
     exact h
    case enter f args=>
     refine⟨h.1,CallsIn.mono h.2 fun e w'' he=> ?_⟩
     cases e with
     | returned u=>exact⟨keep a hy u,by rw[←Act.put_comm a v u h2]; exact he⟩
     | panicked c=>exact hQ _ _ _ he
     | outgrown=>exact he
    case row row args=>exact⟨h.1,RowsIn.mono h.2 fun u w'' he=>⟨keep a hy u,by rw[←Act.put_comm a v u h2]; exact he⟩⟩
    case round l f tmps assign body=>
     refine⟨h.1,RoundIn.mono h.2 fun e w'' he=> ?_⟩
     cases e with
     | returned u=>exact⟨keep a hy u,by rw[←Act.put_comm a v u h2]; exact he⟩
     | panicked c=>exact hQ _ _ _ he
     | outgrown=>exact he
  | halt x w'=>
    cases x<;>simp only[Oper.uponIn] at h ⊢
    case panic u=>exact hQ _ _ _ h
 ·rename_i hw
  simp only[hw] at h
  exact⟨fun _ _=>trivial,keep a hy _,by rw[←Act.put_comm a v undef h2]; exact h.2⟩
theorem lF {i:Nat} {oi:Oper} {v:Value} (hi:ops[i]? =some oi) (hsel:∀(j:Nat) (o:Oper) cs b,ops[j]? =some o→o.op≠.select cs b) (hnd:∀(j:Nat) (o:Oper) c,ops[j]? =some o→o.op≠.defer c)
  (hQ:∀c a w,Q (.panic c) (a.put oi.dst v) w→Q (.panic c) a w):
  ∀(fuel:Nat) (listed:Array Bool) (a:Act) (w:World),
   (∀j oj,ops[j]? =some oj→j≠i→listed.getD j true=false→(∀e∈oj.after,Region.binds .any e=true→e.on≠i)→oi.apart ops oj=true)→
   i∈Region.ready .any ops listed→Yields P ops oi v a→
   wpAnyIn (Fw ro) n P .any ops Q fuel (listed.setIfInBounds i true) (a.put oi.dst v) w→wpAnyIn (Fw ro) n P .any ops Q (fuel+1) listed a w:=by
 intro fuel
 induction fuel with
 | zero=>
   intro listed a w _ hr hy H
   refine⟨fun h=>(by rw[h] at hr; cases hr),fun j hj=> ?_⟩
   by_cases hji:j=i
   ·subst hji; exact fE (hnd j oi · hi) hi hy H
   ·have:=ready_mono hj hji
    rw[H.1] at this
    cases this
 | succ fuel ih=>
   intro listed a w hfree hr hy H
   refine⟨fun h=>(by rw[h] at hr; cases hr),fun j hj=> ?_⟩
   by_cases hji:j=i
   ·subst hji; exact fE (hnd j oi · hi) hi hy H
   ·have h1:=H.2 j (ready_mono hj hji)
    obtain⟨hjun,oj,hoj,hall⟩:=mem_ready.1 hj
    have hnot:∀e∈oj.after,Region.binds .any e=true→e.on≠i:=fun e he hb heq=>by
     have h1:=hall e he hb
     have h0:=(mem_ready.1 hr).1
     rw[heq] at h1
     rcases Nat.lt_or_ge i listed.size with h' | h'
     ·simp[h'] at h0 h1; rw[h0] at h1; cases h1
     ·simp[Array.getElem?_eq_none h'] at h1
    have h2:=su hoj (hfree j oj hoj hji hjun hnot) (fun cs b=>hsel i oi cs b hi) (fun cs b=>hsel j oj cs b hoj) (hnd j oj · hoj) hQ hy h1
    have hfree':∀k ok,ops[k]? =some ok→k≠i→(listed.setIfInBounds j true).getD k true=false→
     (∀e∈ok.after,Region.binds .any e=true→e.on≠i)→oi.apart ops ok=true:=fun k ok hk hki hun hno=>by
     refine hfree k ok hk hki ?_ hno
     by_cases hjk:j=k
     ·subst hjk; exact hjun
     ·rw[getD_set_ne true hjk] at hun; exact hun
    refine wpOpIn_mono (fun a' w' h3=>ih (listed.setIfInBounds j true) a' w' hfree' (ready_mono hr (Ne.symm hji)) h3.1 ?_) h2
    rw[Array.setIfInBounds_comm _ _ hji]
    exact h3.2
theorem mO {f:FuncId} {fn:Func} {c:Code} {args:Array Value} {w:World} {R:Ending→World→Prop} (hf:P.funcs[f]? =some fn) (hb:fn.body=some c)
  (h:c.wpIn (Fw none) 0 P (bodyPost P fn R) {tmps:=args++Array.replicate (fn.ntmps-args.size) undef,defers:=[]} w):Calls P f args w R:=
 eI.1 (callsIn_of_wp (F:=Fw none) (n:=0) hf hb trivial h)
end
end Go.Proofs.Ytghiofgomcihcaa
