import Derived.Test.YtfkhblmeioiciaaGreatDoorLiD
import Derived.DeepKeys3
set_option maxRecDepth 100000
set_option maxHeartbeats 8000000
set_option linter.defProp false
set_option linter.unusedSimpArgs false
set_option linter.unusedVariables false
namespace Go.Proofs.YtfkhblmeioiciaaGreatDoor
open Go Go.RowKit
theorem ajW {p:Prog} {n e:Int} (h:lj p n=some e):e≠0:=by
 unfold lj at h
 split at h
 ·cases h;decide
 ·split at h
  ·cases h;decide
  ·cases h
theorem ui {p:Prog}:∀(m n:Nat) {r:Int×Int},scan p m n=some r->r.2≠0
 | 0,_,_,h=>by cases h
 | m+1,n,r,h=>by
   unfold scan at h
   split at h
   ·rename_i e he
    cases h
    exact ajW he
   ·exact ui m (n+1) h
theorem uj {p:Prog}:∀(m n:Nat),scan p m n=none->∀j,j<m->lj p ((n+j:Nat):Int)=none
 | 0,_,_,j,hj=>by omega
 | m+1,n,h,j,hj=>by
   unfold scan at h
   split at h
   ·cases h
   ·rename_i he
    cases j with
    | zero=>exact he
    | succ j=>rw[show n+(j+1)=(n+1)+j by omega];exact uj m (n+1) h j (by omega)
theorem kn {p:Prog} (hl:p.l.length<=maxLen) (h:(bz p).2=0):(p.last=(p.l.length:Int)-1/\1<=p.l.length/\p.l.length<=64)/\(∀n:Nat,n<p.l.length->lj p n=none)/\((aa p.l p.last).k=4\/(aa p.l p.last).k=6):=by
 unfold bz at h
 split at h
 ·cases h
 split at h
 ·cases h
 rename_i _ c1
 have c1:(decide (0<=p.last)&&decide (p.last<=63))=true:=by simpa using c1
 split at h
 ·rename_i r hr;exact absurd h (ui _ _ hr)
 rename_i hs
 split at h
 ·rename_i hk;exact⟨xR c1 hl,fun n hn=>by simpa using uj _ 0 hs n hn,hk⟩
 ·cases h
structure Ways (p:Prog) (m j:Nat) (ws:List (List Int)):Prop where
 snd:∀r,r∈ws->∃i k:Nat,(i<m/\k∈nx p i\/i=m/\k∈(nx p m).take j)/\r=[(i:Int),(k:Int),1]
 cmp:∀i k:Nat,(i<m/\k∈nx p i\/i=m/\k∈(nx p m).take j)->[(i:Int),(k:Int),1]∈ws
 len:ws.length<=2*m+j
theorem Ways.nil (p:Prog):Ways p 0 0 []:=⟨fun r h=>by simp at h,fun i k h=>by simp at h,Nat.le_refl _⟩
theorem Ways.out {p:Prog} {m j:Nat} {ws:List (List Int)} (h:Ways p m j ws) (hj:j=(nx p m).length) (h2:(nx p m).length<=2):Ways p (m+1) 0 ws where
 snd:=fun r hr=>by
  obtain⟨i,k,h1,rfl⟩:=h.snd r hr
  refine⟨i,k,.inl ?_,rfl⟩
  rw[hj,List.take_length] at h1
  rcases h1 with⟨h3,h4⟩ | ⟨rfl,h4⟩
  ·exact⟨by omega,h4⟩
  ·exact⟨by omega,h4⟩
 cmp:=fun i k hik=>h.cmp i k (by
  rw[hj,List.take_length]
  rcases hik with⟨h3,h4⟩ | ⟨_,h4⟩
  ·rcases aV i m with h5 | h5
   ·exact .inl ⟨h5,h4⟩
   ·obtain rfl:i=m:=by omega
    exact .inr ⟨rfl,h4⟩
  ·simp at h4)
 len:=by have:=h.len;omega
theorem Ways.more {p:Prog} {m j:Nat} {ws ws':List (List Int)} {k:Nat} (h:Ways p m j ws) (hk:(nx p m)[j]? =some k) (hs:∀r,r∈ws'↔r∈ws\/r=[(m:Int),(k:Int),1]) (hl:ws'.length<=ws.length+1):Ways p m (j+1) ws':=by
 have ht:∀x,x∈(nx p m).take (j+1)↔x∈(nx p m).take j\/x=k:=fun x=>by
  rw[List.take_add_one,hk]
  simp
 refine⟨fun r hr=> ?_,fun i x hx=> ?_,by have:=h.len;omega⟩
 ·rcases(hs r).1 hr with h1 | h1
  ·obtain⟨i,x,h2,rfl⟩:=h.snd r h1
   refine⟨i,x,?_,rfl⟩
   rcases h2 with h2 | ⟨h2,h3⟩
   ·exact .inl h2
   ·exact .inr ⟨h2,(ht x).2 (.inl h3)⟩
  ·exact⟨m,k,.inr ⟨rfl,(ht k).2 (.inr rfl)⟩,h1⟩
 ·rcases hx with h1 | ⟨rfl,h1⟩
  ·exact(hs _).2 (.inl (h.cmp i x (.inl h1)))
  ·rcases(ht x).1 h1 with h2 | rfl
   ·exact(hs _).2 (.inl (h.cmp i x (.inr ⟨rfl,h2⟩)))
   ·exact(hs _).2 (.inr rfl)
theorem Ways.app {p:Prog} {m j:Nat} {ws:List (List Int)} {k:Nat} (h:Ways p m j ws) (hk:(nx p m)[j]? =some k):Ways p m (j+1) (ws++[[(m:Int),(k:Int),1]]):=
 h.more hk (fun r=>by simp) (by simp)
theorem aot {L:List (List Int)} {key:List Int} (h:mixI L key<(L.length:Int)):∃(i:Nat) (hi:i<L.length),mixI L key=(i:Int)/\(L[i].take key.length==key)=true:=by
 have hi:L.findIdx (fun r=>r.take key.length==key)<L.length:=by unfold mixI at h;omega
 exact⟨_,hi,rfl,List.findIdx_getElem (w:=hi)⟩
theorem Ways.put {p:Prog} {m j:Nat} {ws:List (List Int)} {k:Nat} (h:Ways p m j ws) (hk:(nx p m)[j]? =some k) (hm:mixI ws [(m:Int),(k:Int)]<(ws.length:Int)):Ways p m (j+1) (ws.set (mixI ws [(m:Int),(k:Int)]).toNat [(m:Int),(k:Int),1]):=by
 obtain⟨i,hi,he,ht⟩:=aot hm
 have hr:ws[i]=[(m:Int),(k:Int),1]:=by
  obtain⟨a,b,_,h2⟩:=h.snd _ (List.getElem_mem hi)
  rw[h2] at ht ⊢
  simp at ht
  simp[ht]
 have:ws.set (mixI ws [(m:Int),(k:Int)]).toNat [(m:Int),(k:Int),1]=ws:=by
  rw[he,<-hr]
  simp
 rw[this]
 refine h.more hk (fun r=>⟨.inl,fun h1=>h1.elim id fun h2=> ?_⟩) (Nat.le_succ _)
 rw[h2,<-hr]
 exact List.getElem_mem hi
structure Seen (p:Prog) (I O:List BV) (ws L V:List (List Int)):Prop where
 ex:∃(X:List BV) (un:List Nat),L=gA X/\X.length=p.l.length/\un.length+V.length=ws.length/\(∀v:Nat,v<ws.length->[(v:Int)]∈V\/v∈un)/\
  ∀i,i<p.l.length->∀k,(X.getD i 0).getLsbD k=true↔(O.getD i 0).getLsbD k=true\/∃v m:Nat,[(v:Int)]∈V/\ws[v]? =some [(i:Int),(m:Int),1]/\(I.getD m 0).getLsbD k=true
theorem Seen.init (p:Prog) (I O:List BV) (ws:List (List Int)) (hO:O.length=p.l.length):Seen p I O ws (gA O) []:=
 ⟨O,List.range ws.length,rfl,hO,by simp,fun v hv=>.inr (by simpa using hv),fun i _ k=>by simp⟩
theorem Seen.step {p:Prog} {I O:List BV} {ws L V:List (List Int)} (h:Seen p I O ws L V) {v a b:Nat} (hI:I.length=p.l.length) (hv:[(v:Int)] ∉ V) (hw:ws[v]? =some [(a:Int),(b:Int),1]) (ha:a<p.l.length) (hb:b<p.l.length):
  Seen p I O ws (st L a 0 (opI .or .i64 (gt L a 0) (gt (gA I) b 0))) (V++[[(v:Int)]]):=by
 obtain⟨X,un,rfl,hX,hl,hu,hb'⟩:=h.ex
 have hvl:v<ws.length:=(bR.1 hw).1
 have hun:v∈un:=(hu v hvl).elim (fun h=>(hv h).elim) id
 rw[mo (hX▸ha),mo (hI▸hb),akB,kt,kt,yJ (hX▸ha)]
 refine⟨X.set a (X.getD a 0 ||| I.getD b 0),un.erase v,rfl,by simp[hX],?_,fun w hwl=> ?_,fun i hi k=> ?_⟩
 ·have:=List.length_erase_of_mem hun
  have:0<un.length:=List.length_pos_of_mem hun
  simp
  omega
 ·rcases hu w hwl with h1 | h1
  ·exact .inl (by simp[h1])
  ·by_cases hwv:w=v
   ·exact .inl (by simp[hwv])
   ·exact .inr ((List.mem_erase_of_ne hwv).2 h1)
 ·have hset:(X.set a (X.getD a 0 ||| I.getD b 0)).getD i 0=if a=i then X.getD a 0 ||| I.getD b 0 else X.getD i 0:=by
   simp only[cN,cO]
   split
   ·simp[hX,ha]
   ·rfl
  rw[hset]
  by_cases hai:a=i
  ·subst hai
   rw[if_pos rfl,BitVec.getLsbD_or,bG,hb' a ha k]
   constructor
   ·rintro ((h1 | ⟨w,m,h1,h2,h3⟩) | h1)
    ·exact .inl h1
    ·exact .inr ⟨w,m,by simp[h1],h2,h3⟩
    ·exact .inr ⟨v,b,by simp,hw,h1⟩
   ·rintro (h1 | ⟨w,m,h1,h2,h3⟩)
    ·exact .inl (.inl h1)
    ·rcases List.mem_append.1 h1 with h4 | h4
     ·exact .inl (.inr ⟨w,m,h4,h2,h3⟩)
     ·have:w=v:=by
       have:[(w:Int)]=[(v:Int)]:=by simpa using h4
       injection this with this
       exact Int.ofNat_inj.1 this
      rw[this,hw] at h2
      have:b=m:=by
       have h2:=Option.some.inj h2
       simp only[thm5] at h2
       exact Int.ofNat_inj.1 h2.2.1
      exact .inr (this▸h3)
  ·rw[if_neg hai,hb' i hi k]
   constructor
   ·rintro (h1 | ⟨w,m,h1,h2,h3⟩)
    ·exact .inl h1
    ·exact .inr ⟨w,m,by simp[h1],h2,h3⟩
   ·rintro (h1 | ⟨w,m,h1,h2,h3⟩)
    ·exact .inl h1
    ·rcases List.mem_append.1 h1 with h4 | h4
     ·exact .inr ⟨w,m,h4,h2,h3⟩
     ·have:w=v:=by
       have:[(w:Int)]=[(v:Int)]:=by simpa using h4
       injection this with this
       exact Int.ofNat_inj.1 this
      rw[this,hw] at h2
      have:a=i/\b=m:=by
       have h2:=Option.some.inj h2
       simp only[thm5] at h2
       exact⟨Int.ofNat_inj.1 h2.1,Int.ofNat_inj.1 h2.2.1⟩
      exact(hai this.1).elim
theorem Seen.len {p:Prog} {I O:List BV} {ws L V:List (List Int)} (h:Seen p I O ws L V):L.length=p.l.length:=by
 obtain⟨X,un,rfl,hX,_⟩:=h.ex
 rw[zI,hX]
theorem Seen.done {p:Prog} {I O:List BV} {ws L V:List (List Int)} (h:Seen p I O ws L V) (hw:Ways p p.l.length 0 ws) (he:¬V.length<ws.length):L=gA (stO p I O):=by
 obtain⟨X,un,rfl,hX,hl,hu,hb⟩:=h.ex
 obtain rfl:un=[]:=List.eq_nil_of_length_eq_zero (by omega)
 congr 1
 refine List.ext_getElem (by rw[hX,wv]) fun i h1 h2=> ?_
 have hi:i<p.l.length:=hX▸h1
 have e1:X[i]=X.getD i 0:=by simp[h1]
 have e2:(stO p I O)[i]=(stO p I O).getD i 0:=by simp[h2]
 rw[e1,e2,tP hi]
 refine BitVec.eq_of_getLsbD_eq fun k hk=> ?_
 rw[aM,hb i hi k,dP]
 constructor
 ·rintro (h3 | ⟨v,m,h3,h4,h5⟩)
  ·exact .inl h3
  ·obtain⟨a,c,h6,h7⟩:=hw.snd _ (ez h4)
   simp only[thm5,Int.natCast_inj,and_true] at h7
   obtain⟨rfl,rfl⟩:=h7
   rcases h6 with⟨_,h6⟩ | ⟨_,h6⟩
   ·exact .inr ⟨m,h6,h5⟩
   ·simp at h6
 ·rintro (h3 | ⟨m,h3,h5⟩)
  ·exact .inl h3
  ·obtain⟨v,hv,h4⟩:=List.getElem_of_mem (hw.cmp i m (.inl ⟨hi,h3⟩))
   exact .inr ⟨v,m,(hu v hv).elim id (fun h=>by simp at h),by rw[thm6 hv,h4],h5⟩
structure Wrote (p:Prog) (I O:List BV) (m:Nat) (b:Bool) (L:List (List Int)):Prop where
 ll:L=gA ((stI p O).take m++I.drop m)
 bb:b=true↔(stI p O).take m≠I.take m
theorem Wrote.init (p:Prog) (I O:List BV):Wrote p I O 0 false (gA I):=⟨by simp,by simp⟩
theorem Wrote.len {p:Prog} {I O:List BV} {m:Nat} {b:Bool} {L:List (List Int)} (h:Wrote p I O m b L) (hI:I.length=p.l.length) (hm:m<=p.l.length):L.length=p.l.length:=by
 rw[h.ll,zI]
 simp[eB,hI]
 omega
theorem Wrote.old {p:Prog} {I O:List BV} {m:Nat} {b:Bool} {L:List (List Int)} (h:Wrote p I O m b L) (hI:I.length=p.l.length) (hm:m<p.l.length):gt L m 0=(I.getD m 0).toInt:=by
 rw[h.ll,mo (by simp[eB,hI];omega)]
 congr 1
 simp[cN,List.getElem?_append,eB,Nat.min_eq_left (Nat.le_of_lt hm)]
theorem Wrote.step {p:Prog} {I O:List BV} {m:Nat} {b:Bool} {L:List (List Int)} (h:Wrote p I O m b L) (hI:I.length=p.l.length) (hO:O.length=p.l.length) (hm:m<p.l.length):
  Wrote p I O (m+1) (b ||!((opI .or .i64 (opI .andNot .i64 (gt (gA O) m 0) (vwr (aa p.l m))) (vrd (aa p.l m)))==gt L m 0)) (st L m 0 (opI .or .i64 (opI .andNot .i64 (gt (gA O) m 0) (vwr (aa p.l m))) (vrd (aa p.l m)))):=by
 have hx:opI .or .i64 (opI .andNot .i64 (gt (gA O) m 0) (vwr (aa p.l m))) (vrd (aa p.l m))=((stI p O).getD m 0).toInt:=by
  rw[mo (hO▸hm),akB,abi,kt,kt,tQ hm]
  rfl
 rw[hx,h.old hI hm]
 have h1:(stI p O)[m]? =some ((stI p O).getD m 0):=by simp[thm6 (show m<(stI p O).length by rw[eB];exact hm)]
 have h2:I[m]? =some (I.getD m 0):=by simp[thm6 (show m<I.length by rw[hI];exact hm)]
 constructor
 ·rw[h.ll,yJ (by simp[eB,hI];omega)]
  congr 1
  refine List.ext_getElem? fun i=> ?_
  rw[cO]
  simp only[List.getElem?_append,eA,List.length_take,List.length_drop,eB,hI,List.getElem?_take,List.getElem?_drop,Nat.min_eq_left (Nat.le_of_lt hm),Nat.min_eq_left (show m+1<=p.l.length from hm)]
  by_cases h3:m=i
  ·subst h3
   rw[if_pos rfl,if_pos (by omega),if_pos (by omega),if_pos (by omega),h1]
  ·rw[if_neg h3]
   by_cases h4:i<m
   ·rw[if_pos h4,if_pos h4,if_pos (by omega),if_pos (by omega)]
   ·rw[if_neg h4,if_neg (by omega)]
    congr 1
    omega
 ·rw[List.take_add_one,List.take_add_one,h1,h2]
  simp only[bG,h.bb,Option.toList_some,Bool.not_eq_true',beq_eq_false_iff_ne]
  constructor
  ·rintro (h3 | h3) he
   ·exact h3 (List.append_inj_left' he rfl)
   ·have:=List.append_inj_right' he rfl
    simp only[thm5,and_true] at this
    exact h3 (by rw[this])
  ·intro hn
   by_cases h3:(stI p O).take m=I.take m
   ·right
    intro h4
    exact hn (by rw[h3,BitVec.eq_of_toInt_eq h4])
   ·exact .inl h3
theorem Wrote.done {p:Prog} {I O:List BV} {m:Nat} {b:Bool} {L:List (List Int)} (h:Wrote p I O m b L) (hI:I.length=p.l.length) (hm:m=p.l.length):L=gA (stI p O)/\(b=true↔stI p O≠I):=by
 have h1:=h.ll
 have h2:=h.bb
 rw[hm,List.take_of_length_le (by rw[eB];exact Nat.le_refl _),List.take_of_length_le (by rw[hI];exact Nat.le_refl _)] at h2
 rw[hm,List.take_of_length_le (by rw[eB];exact Nat.le_refl _),List.drop_of_length_le (by rw[hI];exact Nat.le_refl _),List.append_nil] at h1
 exact⟨h1,h2⟩
end Go.Proofs.YtfkhblmeioiciaaGreatDoor
