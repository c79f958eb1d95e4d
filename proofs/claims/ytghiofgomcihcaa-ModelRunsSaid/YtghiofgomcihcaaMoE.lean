import Derived.Test.YtghiofgomcihcaaMoD
set_option linter.unusedSimpArgs false
set_option linter.unusedVariables false
set_option linter.unusedVariables false
set_option linter.unusedSimpArgs false
namespace Go.Proofs.Ytghiofgomcihcaa
open Go Go.RowKit
def dK (a b:List (List Int)):Bool:=((a.length:Int)==(b.length:Int))&&(List.range a.length).all fun i=>gt a (i:Int) 0==gt b (i:Int) 0
def eE (l:List (List Int)) (i:Int):List (List Int):=List.take (gt l i 2).toNat ((((([]++[[gt l i 3]])++[[gt l i 4]])++[[gt l i 5]])++[[gt l i 6]])++[[gt l i 7]])
def evEq (a b:List (List Int)) (i:Int):Bool:=gt a i 0==gt b i 0&&(gt a i 1==gt b i 1&&dK (eE a i) (eE b i))
def bJ (a b:List (List Int)):Bool:=!decide ((b.length:Int)<(a.length:Int))&&(List.range a.length).all fun i=>evEq a b (i:Int)
def nr (a b:Out):Bool:=(a.kind==b.kind)&&((a.r0==b.r0)&&((a.ctx==b.ctx)&&(((a.tr.length:Int)==(b.tr.length:Int))&&(bJ a.tr b.tr&&(a.left==b.left)))))
theorem jw {f:Nat→Bool} {n:Nat} (h:∀j,j<n→f j=true):(List.range n).all f=true:=by
 rw[List.all_eq_true]
 intro x hx
 exact h x (List.mem_range.1 hx)
theorem jl {f:Nat→Bool} {n j:Nat} (hj:j<n) (h:f j=false):(List.range n).all f=false:=by
 rw[List.all_eq_false]
 exact⟨j,List.mem_range.2 hj,by rw[h]; decide⟩
theorem qt (a:List (List Int)):dK a a=true:=by
 unfold dK
 rw[jw (fun j _=>beq_self_eq_true _),beq_self_eq_true]; rfl
theorem lX (l:List (List Int)) (i:Int):(eE l i).length≤maxLen:=by
 unfold eE
 rw[List.length_take]
 exact Nat.le_trans (Nat.min_le_right _ _) (by show 5≤maxLen; decide)
theorem acB {a b:List (List Int)} {i:Nat} (h:a[i]? =b[i]?):evEq a b (i:Int)=true:=by
 have hg:∀c,gt a (i:Int) c=gt b (i:Int) c:=by
  intro c; unfold gt; rw[List.getD_eq_getElem?_getD (l:=a),List.getD_eq_getElem?_getD (l:=b),Int.toNat_natCast,h]
 have ha:eE a (i:Int)=eE b (i:Int):=by
  unfold eE; simp only[hg]
 unfold evEq
 rw[ha,qt,hg,hg,beq_self_eq_true,beq_self_eq_true]; rfl
theorem uq {a b:List (List Int)} (h:a <+: b):bJ a b=true:=by
 obtain⟨t,rfl⟩:=h
 unfold bJ
 rw[decide_eq_false (by rw[List.length_append]; omega)]
 rw[jw (fun j hj=>acB (by rw[List.getElem?_append_left hj]))]; rfl
theorem lT (a:Out):nr a a=true:=by
 unfold nr
 rw[uq (List.prefix_refl _)]
 simp
end Go.Proofs.Ytghiofgomcihcaa
