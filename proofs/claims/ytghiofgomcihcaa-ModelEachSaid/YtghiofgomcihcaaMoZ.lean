import Derived.Test.YtghiofgomcihcaaMoD
set_option linter.unusedSimpArgs false
set_option linter.unusedVariables false
set_option linter.unusedVariables false
set_option linter.unusedSimpArgs false
namespace Go.Proofs.Ytghiofgomcihcaa
open Go Go.RowKit
def aW (p:Prog):Nat→Ms→List Int
 | 0,_=>[]
 | f+1,m=>m.pc::(if halt p m=0 then aW p f (nxt p m) else[])
theorem fX {p:Prog} {left:Int} {m:Ms} (h:0<left) (hh:halt p m=0):aW p left.toNat m=m.pc::aW p (left-1).toNat (nxt p m):=by
 rw[show left.toNat=(left-1).toNat+1 by omega]
 show m.pc::(if _ then _ else _)=_
 rw[if_pos hh]
theorem gT {p:Prog} {left:Int} {m:Ms} (h:0<left) (hh:halt p m≠0):aW p left.toNat m=[m.pc]:=by
 rw[show left.toNat=(left-1).toNat+1 by omega]
 show m.pc::(if _ then _ else _)=_
 rw[if_neg hh]
theorem gR {p:Prog} {left:Int} {m:Ms} (h:¬0<left):aW p left.toNat m=[]:=by
 rw[show left.toNat=0 by omega]; rfl
theorem gS {p:Prog}:∀(f:Nat) (m:Ms),((aW p f m).length:Int)=(f:Int)-(exec p f m).2.1
 | 0,m=>rfl
 | f+1,m=>by
   unfold aW exec
   by_cases hh:halt p m=0
   ·rw[if_pos hh,if_pos hh,List.length_cons]
    have:=gS (p:=p) f (nxt p m)
    omega
   ·rw[if_neg hh,if_neg hh]
    show((1:Nat):Int)=((f+1:Nat):Int)-(f:Int)
    omega
def cntU (v:List (List Int)) (i:Int):List (List Int):=st v i 0 (opI .add .i64 (gt v i 0) 1)
def cntD (v:List (List Int)) (i:Int):List (List Int):=st v i 0 (opI .sub .i64 (gt v i 0) 1)
def iI (p:Prog) (cx an:List (List Int)) (fu:Int):List (List Int):=(aW p fu.toNat (ms0 cx an)).foldl cntU (List.replicate (p.l.length:Int).toNat [0])
def dt (p:Prog) (cx an:List (List Int)) (fu:Int):List (List Int):=if bq p cx fu≠0 then[] else iI p cx an fu
def rowI (c:List Int):List (List Int):=c.map fun x=>[x]
def up (c:List Int) (i:Int):List Int:=c.set i.toNat (opI .add .i64 (c.getD i.toNat 0) 1)
def dn (c:List Int) (i:Int):List Int:=c.set i.toNat (opI .sub .i64 (c.getD i.toNat 0) 1)
theorem mD (c:List Int) (i:Int):gt (rowI c) i 0=c.getD i.toNat 0:=by
 unfold gt rowI
 rw[List.getD_eq_getElem?_getD (l:=List.map _ _),List.getD_eq_getElem?_getD (l:=c),List.getElem?_map]
 cases c[i.toNat]? <;>rfl
theorem uz (c:List Int) (i x:Int):st (rowI c) i 0 x=rowI (c.set i.toNat x):=by
 unfold st rowI
 rw[List.map_set,List.getD_eq_getElem?_getD,List.getElem?_map]
 cases h:c[i.toNat]? with
 | none=>
   have h1:c.length≤i.toNat:=List.getElem?_eq_none_iff.1 h
   rw[List.set_eq_of_length_le (by rw[List.length_map]; exact h1),List.set_eq_of_length_le (by rw[List.length_map]; exact h1)]
 | some z=>rfl
theorem xp (c:List Int) (i:Int):cntU (rowI c) i=rowI (up c i):=by unfold cntU up; rw[mD,uz]
theorem xq (c:List Int) (i:Int):cntD (rowI c) i=rowI (dn c i):=by unfold cntD dn; rw[mD,uz]
theorem lh:∀(L:List Int) (c:List Int),L.foldl cntU (rowI c)=rowI (L.foldl up c)
 | [],c=>rfl
 | i::L,c=>by rw[List.foldl_cons,xp,lh L,List.foldl_cons]
theorem lj:∀(L:List Int) (c:List Int),L.foldl cntD (rowI c)=rowI (L.foldl dn c)
 | [],c=>rfl
 | i::L,c=>by rw[List.foldl_cons,xq,lj L,List.foldl_cons]
theorem rS (c:List Int) (k j:Nat) (x:Int) (hk:k<c.length):(c.set k x).getD j 0=if j=k then x else c.getD j 0:=by
 rw[List.getD_eq_getElem?_getD,List.getD_eq_getElem?_getD,List.getElem?_set]
 by_cases h:k=j
 ·subst h; rw[if_pos rfl,if_pos hk,if_pos rfl]; rfl
 ·rw[if_neg h,if_neg (Ne.symm h)]
theorem wY:∀(L:List Int) (c:List Int),(∀i∈L,0≤i∧i<(c.length:Int))→(∀j,-1000000≤c.getD j 0∧c.getD j 0+L.length≤1000000)→(L.foldl up c).length=c.length∧∀j:Nat,(L.foldl up c).getD j 0=c.getD j 0+(L.count (j:Int):Int)
 | [],c,_,_=>⟨rfl,fun j=>by show c.getD j 0=c.getD j 0+0; omega⟩
 | i::L,c,h,hb=>by
   obtain⟨h0,h1⟩:=h i List.mem_cons_self
   have hbi:=hb i.toNat
   rw[List.length_cons] at hbi
   have hu:up c i=c.set i.toNat (c.getD i.toNat 0+1):=by unfold up; rw[show opI .add .i64 (c.getD i.toNat 0) 1=c.getD i.toNat 0+1 from wrI (by omega) (by omega)]
   have hlen:(up c i).length=c.length:=by rw[hu,List.length_set]
   have hg:∀j,(up c i).getD j 0=if j=i.toNat then c.getD i.toNat 0+1 else c.getD j 0:=fun j=>by rw[hu,rS c i.toNat j _ (by omega)]
   obtain⟨e1,e2⟩:=wY L (up c i) (fun k hk=>by rw[hlen]; exact h k (List.mem_cons_of_mem _ hk)) (fun j=>by
    rw[hg]
    have:=hb j
    rw[List.length_cons] at this
    split<;>omega)
   rw[List.foldl_cons]
   refine⟨e1.trans hlen,fun j=> ?_⟩
   rw[e2,hg,List.count_cons]
   by_cases hj:j=i.toNat
   ·subst hj
    rw[if_pos rfl,if_pos (by rw[Int.toNat_of_nonneg h0]; exact beq_self_eq_true _)]
    omega
   ·rw[if_neg hj,if_neg (by intro he; exact hj (by have:=eqI he; omega))]
    omega
theorem wZ:∀(L:List Int) (c:List Int),(∀i∈L,0≤i∧i<(c.length:Int))→(∀j,-1000000+(L.length:Int)≤c.getD j 0∧c.getD j 0≤1000000)→(L.foldl dn c).length=c.length∧∀j:Nat,(L.foldl dn c).getD j 0=c.getD j 0-(L.count (j:Int):Int)
 | [],c,_,_=>⟨rfl,fun j=>by show c.getD j 0=c.getD j 0-0; omega⟩
 | i::L,c,h,hb=>by
   obtain⟨h0,h1⟩:=h i List.mem_cons_self
   have hbi:=hb i.toNat
   rw[List.length_cons] at hbi
   have hu:dn c i=c.set i.toNat (c.getD i.toNat 0-1):=by unfold dn; rw[show opI .sub .i64 (c.getD i.toNat 0) 1=c.getD i.toNat 0-1 from wrI (by omega) (by omega)]
   have hlen:(dn c i).length=c.length:=by rw[hu,List.length_set]
   have hg:∀j,(dn c i).getD j 0=if j=i.toNat then c.getD i.toNat 0-1 else c.getD j 0:=fun j=>by rw[hu,rS c i.toNat j _ (by omega)]
   obtain⟨e1,e2⟩:=wZ L (dn c i) (fun k hk=>by rw[hlen]; exact h k (List.mem_cons_of_mem _ hk)) (fun j=>by
    rw[hg]
    have:=hb j
    rw[List.length_cons] at this
    split<;>omega)
   rw[List.foldl_cons]
   refine⟨e1.trans hlen,fun j=> ?_⟩
   rw[e2,hg,List.count_cons]
   by_cases hj:j=i.toNat
   ·subst hj
    rw[if_pos rfl,if_pos (by rw[Int.toNat_of_nonneg h0]; exact beq_self_eq_true _)]
    omega
   ·rw[if_neg hj,if_neg (by intro he; exact hj (by have:=eqI he; omega))]
    omega
theorem tB {L:List Int} {n:Nat} (h:∀i∈L,0≤i∧i<(n:Int)) (hl:L.length≤100000) (j:Nat):(L.foldl dn (L.foldl up (List.replicate n 0))).getD j 0=0:=by
 have z:∀j,(List.replicate n (0:Int)).getD j 0=0:=fun j=>by
  rw[List.getD_eq_getElem?_getD,List.getElem?_replicate]; split<;>rfl
 obtain⟨e1,e2⟩:=wY L (List.replicate n 0) (fun i hi=>by rw[List.length_replicate]; exact h i hi) (fun j=>by rw[z]; omega)
 have hc:∀j:Nat,(L.count (j:Int):Int)≤L.length:=fun j=>by have:=List.count_le_length (a:=(j:Int)) (l:=L); omega
 obtain⟨_,e4⟩:=wZ L (L.foldl up (List.replicate n 0)) (fun i hi=>by rw[e1,List.length_replicate]; exact h i hi) (fun j=>by rw[e2,z]; have:=hc j; omega)
 rw[e4,e2,z]; omega
end Go.Proofs.Ytghiofgomcihcaa
set_option linter.unusedSimpArgs false
set_option linter.unusedVariables false
set_option linter.unusedVariables false
set_option linter.unusedSimpArgs false
namespace Go.Proofs.Ytghiofgomcihcaa
open Go Go.RowKit
theorem RunAt.sub1 {p:Prog} {cx an:List (List Int)} {fu left:Int} {m:Ms} (h:RunAt p cx an fu left m) (hf:fu≤10000):opI .sub .i64 left 1=left-1:=by
 have:=h.hi; have:=h.lo; exact wrI (by omega) (by omega)
structure VAt (p:Prog) (cx an:List (List Int)) (fu left:Int) (m:Ms) (v:List (List Int)):Prop where
 run:RunAt p cx an fu left m
 vl:v.length=p.l.length
 vs:(aW p left.toNat m).foldl cntU v=iI p cx an fu
theorem VAt.init {p:Prog} {cx an:List (List Int)} {fu:Int} (h0:0≤fu) (hl:1≤p.l.length):VAt p cx an fu fu (ms0 cx an) (List.replicate (p.l.length:Int).toNat [0]):=
 ⟨RunAt.init h0 hl,by rw[List.length_replicate]; omega,rfl⟩
theorem sf (v:List (List Int)) (i:Int):(cntU v i).length=v.length:=by unfold cntU st; exact List.length_set
theorem sh (v:List (List Int)) (i:Int):(cntD v i).length=v.length:=by unfold cntD st; exact List.length_set
theorem VAt.go {p:Prog} {cx an:List (List Int)} {fu left left':Int} {m m':Ms} {v v':List (List Int)} (h:VAt p cx an fu left m v) (hp:p.l.length≤maxLen) (hok:(aF p).2=0) (hf:fu≤10000) (hl:0<left) (hh:halt p m=0) (hm:m'=nxt p m) (he:left'=opI .sub .i64 left 1) (hv:v'=cntU v m.pc):
  VAt p cx an fu left' m' v'∧left'.toNat<left.toNat:=by
 obtain⟨g1,g2⟩:=h.run.go hp hok hf hl hh hm he
 refine⟨⟨g1,by rw[hv,sf]; exact h.vl,?_⟩,g2⟩
 have:=h.vs
 rw[fX hl hh,List.foldl_cons] at this
 rw[hv,hm,he,h.run.sub1 hf]; exact this
theorem VAt.end {p:Prog} {cx an:List (List Int)} {fu left:Int} {m:Ms} {v:List (List Int)} (ho:bq p cx fu=0) (h:VAt p cx an fu left m v) (hl:0<left) {k:Int} (hh:halt p m=k) (hk:k≠0):dt p cx an fu=cntU v m.pc:=by
 have:=h.vs
 rw[gT hl (by rw[hh]; exact hk)] at this
 unfold dt
 rw[if_neg (by simp[ho]),←this]; rfl
theorem VAt.out {p:Prog} {cx an:List (List Int)} {fu left:Int} {m:Ms} {v:List (List Int)} (ho:bq p cx fu=0) (h:VAt p cx an fu left m v) (hl:¬0<left):dt p cx an fu=v:=by
 have:=h.vs
 rw[gR hl] at this
 unfold dt
 rw[if_neg (by simp[ho]),←this]; rfl
theorem oI:∀(L:List Int) (v:List (List Int)),(L.foldl cntU v).length=v.length
 | [],v=>rfl
 | i::L,v=>by rw[List.foldl_cons,oI L,sf]
theorem pC {p:Prog} {cx an:List (List Int)} {fu:Int} (h:bq p cx fu=0):(dt p cx an fu).length=p.l.length:=by
 unfold dt iI
 rw[if_neg (by simp[h]),oI,List.length_replicate]; omega
theorem ol {p:Prog} (hp:p.l.length≤maxLen) (hok:(aF p).2=0):∀(f:Nat) (m:Ms),0≤m.pc→m.pc<(p.l.length:Int)→∀i∈aW p f m,0≤i∧i<(p.l.length:Int)
 | 0,m,_,_,i,hi=>by cases hi
 | f+1,m,h0,h1,i,hi=>by
   unfold aW at hi
   rcases List.mem_cons.1 hi with rfl | hi
   ·exact⟨h0,h1⟩
   ·split at hi
    ·rename_i hh
     obtain⟨q1,q2⟩:=aci hp hok h0 h1 hh
     exact ol hp hok f (nxt p m) q1 q2 i hi
    ·cases hi
theorem oh {p:Prog}:∀(f:Nat) (m:Ms),(aW p f m).length≤f
 | 0,m=>Nat.le_refl _
 | f+1,m=>by
   unfold aW
   split
   ·rw[List.length_cons]; exact Nat.succ_le_succ (oh f _)
   ·exact Nat.succ_le_succ (Nat.zero_le _)
def oe (p:Prog) (cx an:List (List Int)) (fu:Int):List (List Int):=(aW p fu.toNat (ms0 cx an)).foldl cntD (dt p cx an fu)
theorem od {p:Prog} {cx an:List (List Int)} {fu:Int} (hp:p.l.length≤maxLen) (hok:(aF p).2=0) (hf:fu≤10000) (ho:bq p cx fu=0) (j:Int):gt (oe p cx an fu) j 0=0:=by
 have hI:=cA hp hok
 unfold oe dt iI
 rw[if_neg (by simp[ho])]
 have e:List.replicate (p.l.length:Int).toNat [(0:Int)]=rowI (List.replicate (p.l.length:Int).toNat 0):=by
  unfold rowI; rw[List.map_replicate]
 rw[e,lh,lj,mD]
 exact tB (fun i hi=>by
  have:=ol hp hok fu.toNat (ms0 cx an) (Int.le_refl 0) (by have:=hI.1.2.1; show(0:Int)<_; omega) i hi
  omega) (Nat.le_trans (oh _ _) (by omega)) _
def ru (p:Prog) (last pc:Int):Prop:=
 (pc=opI .add .i64 last 1∨((itgt last (ae p.l last)).2=true∧pc=(itgt last (ae p.l last)).1))∧((ae p.l last).k=4→pc=(itgt last (ae p.l last)).1)∧(ae p.l last).k≠6
theorem abn {p:Prog} (hp:p.l.length≤maxLen) (hok:(aF p).2=0) {m:Ms} (h0:0≤m.pc) (h1:m.pc<(p.l.length:Int)) (hh:halt p m=0):ru p m.pc (nxt p m).pc:=by
 obtain⟨⟨hl,n1,n64⟩,_,_⟩:=cA hp hok
 have hmay:=aj hp hok h0 h1
 have hd:=aZ hmay
 show ru p m.pc (pcX m (ae p.l m.pc))
 have h6:(ae p.l m.pc).k≠6:=by
  intro h6
  unfold halt mC at hh
  split at hh
  ·cases hh
  ·simp[h6] at hh
 unfold ru
 generalize ae p.l m.pc=x at *
 unfold pcX
 split
 ·rename_i hk
  have hk':x.k=3∨x.k=4:=by
   rcases hk with hk | hk
   ·exact .inr hk
   ·exact .inl hk.1
  have hy:(itgt m.pc x).2=true:=by
   rw[kX hk' (by rw[Bool.and_eq_true,decide_eq_true_eq,decide_eq_true_eq]; omega) (by rw[Bool.and_eq_true,decide_eq_true_eq,decide_eq_true_eq]; omega)]
  exact⟨.inr ⟨hy,rfl⟩,fun _=>rfl,h6⟩
 ·rename_i hk
  exact⟨.inl rfl,fun h4=>absurd (.inl h4) hk,h6⟩
structure CAt (p:Prog) (cx an:List (List Int)) (fu left n last:Int) (m:Ms) (v:List (List Int)):Prop where
 run:RunAt p cx an fu left m
 vl:v.length=p.l.length
 vs:(aW p left.toNat m).foldl cntD v=oe p cx an fu
 nn:n=fu-left
 fst:n=0→m=ms0 cx an
 lst:last<(p.l.length:Int)
 nx:0≤last→ru p last m.pc
theorem CAt.init {p:Prog} {cx an:List (List Int)} {fu:Int} (h0:0≤fu) (hl:1≤p.l.length) (ho:bq p cx fu=0):CAt p cx an fu fu 0 (-1) (ms0 cx an) (dt p cx an fu):=
 ⟨RunAt.init h0 hl,pC ho,rfl,by omega,fun _=>rfl,by omega,fun h=>absurd h (by decide)⟩
theorem CAt.go {p:Prog} {cx an:List (List Int)} {fu left left' n n' last last':Int} {m m':Ms} {v v':List (List Int)} (h:CAt p cx an fu left n last m v) (hp:p.l.length≤maxLen) (hok:(aF p).2=0) (hf:fu≤10000) (hl:0<left) (hh:halt p m=0) (hm:m'=nxt p m) (he:left'=opI .sub .i64 left 1) (hv:v'=cntD v m.pc) (hn:n'=opI .add .i64 n 1) (hla:last'=m.pc):
  CAt p cx an fu left' n' last' m' v'∧left'.toNat<left.toNat:=by
 obtain⟨g1,g2⟩:=h.run.go hp hok hf hl hh hm he
 have e1:=h.run.sub1 hf
 have h3:=h.nn; have h4:=h.run.lo; have h5:=h.run.hi
 have e2:n'=n+1:=by rw[hn]; exact wrI (by omega) (by omega)
 subst hla
 refine⟨⟨g1,by rw[hv,sh]; exact h.vl,?_,by omega,fun h0=>by omega,h.run.pc1,fun _=>by rw[hm]; exact abn hp hok h.run.pc0 h.run.pc1 hh⟩,g2⟩
 have:=h.vs
 rw[fX hl hh,List.foldl_cons] at this
 rw[hv,hm,he,e1]; exact this
structure CEnd (p:Prog) (cx an:List (List Int)) (fu n:Int) (v:List (List Int)):Prop where
 vl:v.length=p.l.length
 z:∀j:Int,gt v j 0=0
 nn:n=opI .sub .i64 fu (mrun p cx an fu).1.left
theorem ox {p:Prog} {cx an:List (List Int)} {fu:Int} (ho:bq p cx fu=0):(mrun p cx an fu).1.left=(exec p fu.toNat (ms0 cx an)).2.1:=by
 unfold mrun
 rw[if_neg (by simp[ho])]; rfl
theorem CAt.end {p:Prog} {cx an:List (List Int)} {fu left n last:Int} {m:Ms} {v:List (List Int)} (ho:bq p cx fu=0) (h:CAt p cx an fu left n last m v) (hp:p.l.length≤maxLen) (hok:(aF p).2=0) (hf:fu≤10000) (hl:0<left) {k:Int} (hh:halt p m=k) (hk:k≠0):CEnd p cx an fu (opI .add .i64 n 1) (cntD v m.pc):=by
 have h3:=h.nn; have h4:=h.run.lo; have h5:=h.run.hi
 refine⟨by rw[sh]; exact h.vl,fun j=> ?_,?_⟩
 ·have:=h.vs
  rw[gT hl (by rw[hh]; exact hk)] at this
  rw[show cntD v m.pc=oe p cx an fu from this]
  exact od hp hok hf ho j
 ·rw[ox ho,h.run.rn,mG hl (by rw[hh]; exact hk)]
  show opI .add .i64 n 1=opI .sub .i64 fu (left-1)
  rw[show opI .add .i64 n 1=n+1 from wrI (by omega) (by omega),show opI .sub .i64 fu (left-1)=fu-(left-1) from wrI (by omega) (by omega)]
  omega
theorem CAt.out {p:Prog} {cx an:List (List Int)} {fu left n last:Int} {m:Ms} {v:List (List Int)} (ho:bq p cx fu=0) (h:CAt p cx an fu left n last m v) (hp:p.l.length≤maxLen) (hok:(aF p).2=0) (hf:fu≤10000) (hl:¬0<left):CEnd p cx an fu n v:=by
 have h3:=h.nn; have h4:=h.run.lo; have h5:=h.run.hi
 refine⟨h.vl,fun j=> ?_,?_⟩
 ·have:=h.vs
  rw[gR hl] at this
  rw[show v=oe p cx an fu from this]
  exact od hp hok hf ho j
 ·rw[ox ho,h.run.rn,mF h.run.lo hl]
  show n=opI .sub .i64 fu 0
  rw[show opI .sub .i64 fu 0=fu-0 from wrI (by omega) (by omega)]
  omega
theorem bn {p:Prog} {cx:List (List Int)} {fu:Int} (h:bq p cx fu=0):(aF p).2=0∧(cx.length:Int)=p.ctx∧0≤fu∧fu≤10000:=by
 unfold bq at h
 split at h
 ·rename_i h1; exact absurd h h1
 ·rename_i h1
  split at h
  ·cases h
  ·refine⟨by omega,by omega,by omega,by omega⟩
end Go.Proofs.Ytghiofgomcihcaa
