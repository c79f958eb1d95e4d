import Derived.Test.YtfkhblmeioiciaaGreatDoorLiA
set_option maxRecDepth 100000
set_option maxHeartbeats 8000000
set_option linter.defProp false
set_option linter.unusedSimpArgs false
set_option linter.unusedVariables false
namespace Go.Proofs.YtfkhblmeioiciaaGreatDoor
open Go Go.RowKit
def arO (p:Prog) (i:Int):List (List Int):=
 if(aa p.l i).k≠4/\(aa p.l i).k≠6 then
  if(itgt i (aa p.l i)).2=true/\(itgt i (aa p.l i)).1≠opI .add .i64 i 1 then[[min (itgt i (aa p.l i)).1 (opI .add .i64 i 1)],[max (itgt i (aa p.l i)).1 (opI .add .i64 i 1)]] else[[opI .add .i64 i 1]]
 else if(itgt i (aa p.l i)).2=true then[[(itgt i (aa p.l i)).1]] else[]
abbrev BV:=BitVec 64
def bvI (x:Int):BV:=BitVec.ofInt 64 x
theorem kt (X:BV):bvI X.toInt=X:=BitVec.ofInt_toInt
theorem aj2 (X:BV):IntKind.i64.wrap (X.toNat:Int)=X.toInt:=by
 rw[aR,BitVec.toInt_eq_toNat_cond]
 have:=X.isLt
 split<;>omega
theorem akB (x y:Int):opI .or .i64 x y=(bvI x ||| bvI y).toInt:=aj2 _
theorem abi (x y:Int):opI .andNot .i64 x y=(bvI x &&& ~~~ bvI y).toInt:=aj2 _
def gA (L:List BV):List (List Int):=L.map fun x=>[x.toInt]
theorem zI (L:List BV):(gA L).length=L.length:=by simp[gA]
theorem mo {L:List BV} {i:Nat} (h:i<L.length):gt (gA L) i 0=(L.getD i 0).toInt:=by
 simp[gt,gA,h]
theorem yJ {L:List BV} {i:Nat} (h:i<L.length) (X:BV):st (gA L) i 0 X.toInt=gA (L.set i X):=by
 simp[st,gA,h,List.map_set]
def sub (a b:BV):Prop:=∀k,a.getLsbD k=true->b.getLsbD k=true
def nx (p:Prog) (i:Nat):List Nat:=(arO p i).map fun r=>(r.getD 0 0).toNat
def wB (p:Prog) (i:Nat):BV:=bvI (vwr (aa p.l i))
def rB (p:Prog) (i:Nat):BV:=bvI (vrd (aa p.l i))
def orB (I:List BV) (l:List Nat) (a:BV):BV:=l.foldl (fun a m=>a ||| I.getD m 0) a
theorem dP (I:List BV) (k:Nat):∀(l:List Nat) (a:BV),(orB I l a).getLsbD k=true↔a.getLsbD k=true\/∃m,m∈l/\(I.getD m 0).getLsbD k=true
 | [],a=>by simp[orB]
 | m::l,a=>by
   have:=dP I k l (a ||| I.getD m 0)
   unfold orB at *
   rw[List.foldl_cons,this,BitVec.getLsbD_or]
   simp only[bG,List.mem_cons]
   constructor
   ·rintro ((h | h) | ⟨x,h1,h2⟩)
    ·exact .inl h
    ·exact .inr ⟨m,.inl rfl,h⟩
    ·exact .inr ⟨x,.inr h1,h2⟩
   ·rintro (h | ⟨x,rfl | h1,h2⟩)
    ·exact .inl (.inl h)
    ·exact .inl (.inr h2)
    ·exact .inr ⟨x,h1,h2⟩
def stO (p:Prog) (I O:List BV):List BV:=(List.range p.l.length).map fun i=>orB I (nx p i) (O.getD i 0)
def liB (p:Prog) (O:List BV) (i:Nat):BV:=(O.getD i 0 &&& ~~~ wB p i) ||| rB p i
def stI (p:Prog) (O:List BV):List BV:=(List.range p.l.length).map fun i=>liB p O i
theorem wv (p:Prog) (I O:List BV):(stO p I O).length=p.l.length:=by simp[stO]
theorem eB (p:Prog) (O:List BV):(stI p O).length=p.l.length:=by simp[stI]
theorem tP {p:Prog} {I O:List BV} {i:Nat} (h:i<p.l.length):(stO p I O).getD i 0=orB I (nx p i) (O.getD i 0):=by simp[stO,h]
theorem tQ {p:Prog} {O:List BV} {i:Nat} (h:i<p.l.length):(stI p O).getD i 0=liB p O i:=by simp[stI,h]
structure Inv (p:Prog) (I O:List BV):Prop where
 li:I.length=p.l.length
 lo:O.length=p.l.length
 up:∀i,i<p.l.length->sub (I.getD i 0) (liB p O i)
 on:∀i,i<p.l.length->sub (O.getD i 0) (orB I (nx p i) 0)
 rd:∀i k,(I.getD i 0).getLsbD k=true->∃j,j<p.l.length/\(rB p j).getLsbD k=true
theorem xP {p:Prog} {O:List BV} {i k:Nat} (hk:k<64):(liB p O i).getLsbD k=true↔(O.getD i 0).getLsbD k=true/\(wB p i).getLsbD k=false\/(rB p i).getLsbD k=true:=by
 unfold liB
 rw[BitVec.getLsbD_or,BitVec.getLsbD_and,BitVec.getLsbD_not]
 simp[hk]
theorem ag3 {a:BV} {k:Nat} (h:a.getLsbD k=true):k<64:=by
 rcases aV k 64 with h1 | h1
 ·exact h1
 ·rw[BitVec.getLsbD_of_ge _ _ h1] at h;cases h
theorem Inv.zero (p:Prog):Inv p (List.replicate p.l.length 0) (List.replicate p.l.length 0) where
 li:=by simp
 lo:=by simp
 up:=fun i hi k h=>by simp[hi] at h
 on:=fun i hi k h=>by simp[hi] at h
 rd:=fun i k h=>by
  rcases aV i p.l.length with hi | hi
  ·simp[hi] at h
  ·simp[List.getD,List.getElem?_replicate,Nat.not_lt.2 hi] at h
theorem grow {p:Prog} {I O:List BV} (h:Inv p I O):∀i,sub (I.getD i 0) ((stI p (stO p I O)).getD i 0):=fun i k hk=>by
 rcases aV i p.l.length with hi | hi
 ·rw[tQ hi,xP (ag3 hk)]
  rcases(xP (ag3 hk)).1 (h.up i hi k hk) with⟨h1,h2⟩ | h1
  ·exact .inl ⟨by rw[tP hi];exact(dP _ _ _ _).2 (.inl h1),h2⟩
  ·exact .inr h1
 ·simp[List.getD,bB (h.li▸hi)] at hk
theorem Inv.step {p:Prog} {I O:List BV} (h:Inv p I O):Inv p (stI p (stO p I O)) (stO p I O) where
 li:=eB _ _
 lo:=wv _ _ _
 up:=fun i hi k hk=>by rw[tQ hi] at hk;exact hk
 on:=fun i hi k hk=>by
  rw[tP hi] at hk
  have:∃m,m∈nx p i/\(I.getD m 0).getLsbD k=true:=by
   rcases(dP _ _ _ _).1 hk with h1 | h1
   ·rcases(dP _ _ _ _).1 (h.on i hi k h1) with h2 | h2
    ·simp at h2
    ·exact h2
   ·exact h1
  obtain⟨m,h1,h2⟩:=this
  exact(dP _ _ _ _).2 (.inr ⟨m,h1,grow h m k h2⟩)
 rd:=fun i k hk=>by
  rcases aV i p.l.length with hi | hi
  ·rw[tQ hi] at hk
   rcases(xP (ag3 hk)).1 hk with⟨h1,_⟩ | h1
   ·rw[tP hi] at h1
    rcases(dP _ _ _ _).1 h1 with h2 | ⟨m,_,h2⟩
    ·rcases(dP _ _ _ _).1 (h.on i hi k h2) with h3 | ⟨m,_,h3⟩
     ·simp at h3
     ·exact h.rd m k h3
    ·exact h.rd m k h2
   ·exact⟨i,hi,h1⟩
  ·simp[List.getD,bB ((eB p (stO p I O)).symm▸hi)] at hk
structure Fix (p:Prog) (I O:List BV):Prop where
 li:I.length=p.l.length
 lo:O.length=p.l.length
 ii:∀i,i<p.l.length->I.getD i 0=liB p O i
 oo:∀i,i<p.l.length->O.getD i 0=orB I (nx p i) 0
 rd:∀i k,(I.getD i 0).getLsbD k=true->∃j,j<p.l.length/\(rB p j).getLsbD k=true
theorem Inv.fix {p:Prog} {I O:List BV} (h:Inv p I O) (he:stI p (stO p I O)=I):Fix p I (stO p I O) where
 li:=h.li
 lo:=wv _ _ _
 ii:=fun i hi=>by conv=>lhs;rw[<-he]
                  exact tQ hi
 oo:=fun i hi=>by
  rw[tP hi]
  refine BitVec.eq_of_getLsbD_eq fun k hk=> ?_
  rw[aM,dP,dP]
  constructor
  ·rintro (h1 | h1)
   ·exact(dP _ _ _ _).1 (h.on i hi k h1)
   ·exact .inr h1
  ·rintro (h1 | h1)
   ·simp at h1
   ·exact .inr h1
 rd:=h.rd
end Go.Proofs.YtfkhblmeioiciaaGreatDoor
