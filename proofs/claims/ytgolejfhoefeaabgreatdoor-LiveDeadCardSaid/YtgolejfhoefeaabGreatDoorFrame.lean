import Derived.Test.YtgolejfhoefeaabGreatDoorLib
import Derived.ProofKit
import Derived.OpenShut
import Derived.Carry
import Derived.Deep.Slices
set_option maxRecDepth 100000
set_option maxHeartbeats 8000000
set_option linter.defProp false
set_option linter.unusedVariables false
set_option linter.unusedSimpArgs false
namespace Go.Proofs.YtgolejfhoefeaabGreatDoor
open Go.ChangeShapes Go.WideShapes Go.ChangeAt Go.RowKit
section
variable {H:Type}{enc:TypeId×Value->H}{P:Program}
def ua{W W':World}(hl:laidOutB P=true)(hb:Below W.heap.size W W'):
  ∀(ts:List TypeId) (vs:List Value) (ds:List (DataW H)) (ps:List MemPlace),ts.all (fun t=>P.readableRec t&&decide (t<P.types.size))=true->(∀x∈ps,x.block<W.heap.size)->
   DataW.TrodAll enc P W 0 (fun _=>true) true ts vs ds ps->DataW.TrodAll enc P W' 0 (fun b=>decide (b<W.heap.size)) true ts vs ds ps:=by
 intro ts
 induction ts with
 |nil=>intro vs ds ps _ _ h;cases vs<;>cases ds<;>exact h
 |cons t ts ih=>intro vs ds ps AX Gf h;obtain⟨v,Pb,d,JJ,p,q,rfl,rfl,rfl,h0,r0⟩:=trodAll_cons h;simp only[List.all_cons,ne,ax]at AX;exact⟨p,q,Below.trod hl AX.1.1 AX.1.2 h0 hb (fun x hx=>Gf x (List.mem_append_left _ hx)),ih _ _ _ AX.2 (fun x hx=>Gf x (List.mem_append_right _ hx)) r0,rfl⟩
def alk{f:Func}{s:ChangeSpec}{W W':World}{args:Array Value}{ds:List (DataW H)}{Gn:List MemPlace}{tb:TypeId}
  (hl:laidOutB P=true) (hts:f.params.toList.all (fun t=>P.readableRec t&&decide (t<P.types.size))=true) (hv:s.vars=[]) (EY:f.resultTypes = #[tb]) (Qu:P.underlying tb=some .bool)
  (hW:DataW.Whole enc P f.params.toList s.vars false W args.toList ds [] Gn) (LK:s.fn H (ds++[])={results:=[.lit (.bool true)],args:=ds}) (hb:Below W.heap.size W W'):
  s.post enc P f false true false false W args (.bool true) W':=by
 have Ap:∀x∈Gn,x.block<W.heap.size:=fun x hx=>hW.lt x hx;have Xf:=hW;obtain⟨p,q,hA,hV,rfl,hfz,EA⟩:=hW;rw[hv]at hV;obtain rfl:q=[]:=hV;refine⟨ds,[],p++[],[],p,[],Xf,?_,?_,?_,hb.frame _,fun h=>by cases h⟩
 .rw[LK,EY];exact trodAll_mk1 (shut_bool Qu _)
 .rw[LK];exact ua hl hb _ _ _ _ hts (fun x hx=>Ap x Xx) hA
 .rw[LK,hv];rfl
end
end Go.Proofs.YtgolejfhoefeaabGreatDoor
