import Derived.Test.YtghiofgomcihcaaSyQ
set_option linter.unusedVariables false
set_option linter.unusedSimpArgs false
namespace Go.Proofs.Ytghiofgomcihcaa
open Go.RowKit Go.ChangeShapes Go.WideShapes
def repL (ks:List CE):Nat→List CE
 | 0=>[]
 | n+1=>ks++repL ks n
theorem pU (ks:List CE):∀n,(repL ks n).length=n*ks.length
 | 0=>by simp[repL]
 | n+1=>by simp only[repL,List.length_append,pU ks n,Nat.succ_mul]; omega
theorem Rw.array {P:Program} {t e:TypeId} {ks:List CE} {n:Nat} (r:Rw P e ks) (ht:P.underlying t=some (.array n e)) (hc:P.cellsOf t=(repL ks n).length):Rw P t (repL ks n) where
 cells:=hc
 opn:=fun {H} {enc} {W} {sp} {hd} {fuel} {cs} {d} h=>by
  obtain⟨xs,m,_,_,hl,hlen,hf⟩:=DataW.trod_array ht h
  rw[hc,pU] at hl
  have key:∀(k i:Nat),i+k=n→∃q,cs.drop (i*ks.length)=rowV (repL ks k) q∧ah (repL ks k) q=true:=by
   intro k
   induction k with
   | zero=>intro i hi; exact⟨[],by rw[List.drop_eq_nil_of_le (by rw[hl]; exact Nat.mul_le_mul_right _ (by omega))]; rfl,rfl⟩
   | succ k ih=>
     intro i hi
     have h1:=hf i (by omega)
     rw[r.cells,List.getElem?_eq_getElem (by omega)] at h1
     obtain⟨a,ha,ha'⟩:=r.opn h1
     obtain⟨b,hb,hb'⟩:=ih (i+1) (by omega)
     refine⟨a++b,?_,iU ha' hb'⟩
     show _=rowV (ks++repL ks k) _
     rw[lu ha',←ha,←hb,Nat.succ_mul,←List.drop_drop,List.take_append_drop]
  obtain⟨q,h1,h2⟩:=key n 0 (by omega)
  rw[Nat.zero_mul,List.drop_zero] at h1
  exact⟨q,h1,h2⟩
theorem rD {k:CE} {ks:List CE} {q:List Int} (h:ah (k::ks) q=true):∃x q',q=x::q'∧inCE k x=true∧ah ks q'=true:=by
 cases q with
 | nil=>cases h
 | cons x q'=>
   simp only[ah,Bool.and_eq_true] at h
   exact⟨x,q',rfl,h.1,h.2⟩
theorem uq {q:List Int} (h:ah [] q=true):q=[]:=by
 cases q with
 | nil=>rfl
 | cons=>cases h
def Kl (P:Program) (d t:Nat) (z:List C):Prop:=∀vs,aE vs z→P.keyLits d t vs=some (bA vs)
def repC (z:List C):Nat→List C
 | 0=>[]
 | n+1=>z++repC z n
theorem ct:∀{z:List C} {vs:List Value},aE vs z→vs.length=z.length
 | [],vs,h=>by rw[bB h]; rfl
 | .int k e::r,vs,h=>by
   obtain⟨x,l,rfl,_,h2⟩:=ar h
   simp[ct h2]
 | .bool e::r,vs,h=>by
   obtain⟨x,l,rfl,h2⟩:=bu h
   simp[ct h2]
 | .yld _::_,vs,h | .wn _ _ _ _ _::_,vs,h | .aw _ _ _ _ _ _ _::_,vs,h | .str _::_,vs,h | .pe _ _ _ _ _ _::_,vs,h | .nmp::_,vs,h | .mp _::_,vs,h | .itp _ _::_,vs,h | .ptr _ _::_,vs,h | .fp _ _::_,vs,h | .fn _::_,vs,h | .nilp::_,vs,h | .undef::_,vs,h | .sl _::_,vs,h | .ep _ _ _ _::_,vs,h | .nsl::_,vs,h | .nilf::_,vs,h | .clo _ _ _::_,vs,h=>by
   cases vs with
   | nil=>exact h.elim
   | cons v l=>cases v<;>exact h.elim
theorem ef:∀{z z':List C} {vs:List Value},aE vs (z++z')→∃v1 v2,vs=v1++v2∧aE v1 z∧aE v2 z'∧bA vs=bA v1++bA v2
 | [],z',vs,h=>⟨[],vs,rfl,trivial,h,rfl⟩
 | .int k e::r,z',vs,h=>by
   obtain⟨x,l,rfl,hx,h2⟩:=ar (r:=r++z') h
   obtain⟨v1,v2,rfl,h3,h4,h5⟩:=ef h2
   exact⟨.int k x::v1,v2,rfl,⟨rfl,hx,h3⟩,h4,by simp[bA,h5]⟩
 | .bool e::r,z',vs,h=>by
   obtain⟨x,l,rfl,h2⟩:=bu (r:=r++z') h
   obtain⟨v1,v2,rfl,h3,h4,h5⟩:=ef h2
   exact⟨.bool x::v1,v2,rfl,h3,h4,by simp[bA,h5]⟩
 | .yld _::_,_,vs,h | .wn _ _ _ _ _::_,_,vs,h | .aw _ _ _ _ _ _ _::_,_,vs,h | .str _::_,_,vs,h | .pe _ _ _ _ _ _::_,_,vs,h | .nmp::_,_,vs,h | .mp _::_,_,vs,h | .itp _ _::_,_,vs,h | .ptr _ _::_,_,vs,h | .fp _ _::_,_,vs,h | .fn _::_,_,vs,h | .nilp::_,_,vs,h | .undef::_,_,vs,h | .sl _::_,_,vs,h | .ep _ _ _ _::_,_,vs,h | .nsl::_,_,vs,h | .nilf::_,_,vs,h | .clo _ _ _::_,_,vs,h=>by
   cases vs with
   | nil=>exact h.elim
   | cons v l=>cases v<;>exact h.elim
theorem Kl.int {P:Program} {d t:Nat} {k:IntKind} (e:E) (ht:P.underlying t=some (.int k)):Kl P (d+1) t [.int k e]:=fun vs hv=>by
 obtain⟨x,l,rfl,hx,h2⟩:=ar hv
 obtain rfl:=bB h2
 have hw:(Lit.int k x).wf=true:=hx
 simp[Program.keyLits,ht,bA,hw]
theorem Kl.array {P:Program} {d t e n:Nat} {z:List C} (h:Kl P d e z) (ht:P.underlying t=some (.array n e)) (he:P.cellsOf e=z.length) (hc:P.cellsOf t=n*z.length):Kl P (d+1) t (repC z n):=fun vs hv=>by
 have key:∀(k i:Nat) (cs us:List Value),cs.drop (i*z.length)=us→aE us (repC z k)→∃ls,((List.range' i k).mapM fun i=>P.keyLits d e ((cs.drop (i*P.cellsOf e)).take (P.cellsOf e)))=some ls∧ls.flatten=bA us:=by
  intro k
  induction k with
  | zero=>intro i cs us _ hu; exact⟨[],rfl,by rw[bB hu]; rfl⟩
  | succ k ih=>
    intro i cs us hd hu
    obtain⟨v1,v2,rfl,h1,h2,h3⟩:=ef (z:=z) (z':=repC z k) hu
    have hl:=ct h1
    obtain⟨ls,g1,g2⟩:=ih (i+1) cs v2 (by rw[Nat.succ_mul,←List.drop_drop,hd,List.drop_left' hl]) h2
    refine⟨bA v1::ls,?_,by rw[List.flatten_cons,g2,h3]⟩
    rw[List.range'_succ,List.mapM_cons,he,hd,List.take_left' hl,h v1 h1]
    rw[he] at g1
    simp only[Option.pure_def,Option.bind_eq_bind,Option.bind_some,g1]
 obtain⟨ls,g1,g2⟩:=key n 0 vs vs (by simp) hv
 have hl:vs.length=P.cellsOf t:=by
  have hr:∀m,(repC z m).length=m*z.length:=fun m=>by
   induction m with
   | zero=>simp[repC]
   | succ m ih=>simp only[repC,List.length_append,ih,Nat.succ_mul]; omega
  rw[hc,ct hv,hr]
 simp only[Program.keyLits,ht,hl,if_true]
 rw[List.range_eq_range',g1]
 simp[g2]
def KlSeq (P:Program) (d off:Nat) (fs:List Field) (z:List C):Prop:=∀(cs us:List Value),cs.drop off=us→aE us z→∃ls,(fs.mapM fun f=>P.keyLits d f.type ((cs.drop f.offset).take (P.cellsOf f.type)))=some ls∧ls.flatten=bA us
theorem KlSeq.nil (P:Program) (d off:Nat):KlSeq P d off [] []:=fun cs us _ hu=>⟨[],rfl,by rw[bB hu]; rfl⟩
theorem KlSeq.cons {P:Program} {d off:Nat} {f:Field} {fs:List Field} {z z':List C} (h:Kl P d f.type z) (ho:f.offset=off) (hc:P.cellsOf f.type=z.length) (h':KlSeq P d (off+z.length) fs z'):KlSeq P d off (f::fs) (z++z'):=fun cs us hd hu=>by
 obtain⟨v1,v2,rfl,h1,h2,h3⟩:=ef hu
 have hl:=ct h1
 obtain⟨ls,g1,g2⟩:=h' cs v2 (by rw[←List.drop_drop,hd,List.drop_left' hl]) h2
 refine⟨bA v1::ls,?_,by rw[List.flatten_cons,g2,h3]⟩
 rw[List.mapM_cons,ho,hc,hd,List.take_left' hl,h v1 h1]
 simp only[Option.pure_def,Option.bind_eq_bind,Option.bind_some,g1]
theorem Kl.struct {P:Program} {d t:Nat} {fs:Array Field} {z:List C} (h:KlSeq P d 0 fs.toList z) (ht:P.underlying t=some (.struct fs)) (hc:P.cellsOf t=z.length) (hn:fs.all (·.name != "_")=true):Kl P (d+1) t z:=fun vs hv=>by
 obtain⟨ls,g1,g2⟩:=h vs vs rfl hv
 have hl:vs.length=P.cellsOf t:=by rw[hc,ct hv]
 simp only[Program.keyLits,ht,hl,hn,and_self,if_true,g1]
 simp[g2]
end Go.Proofs.Ytghiofgomcihcaa
