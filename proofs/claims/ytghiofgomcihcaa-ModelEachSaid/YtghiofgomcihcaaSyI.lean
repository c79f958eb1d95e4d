import Derived.Test.YtghiofgomcihcaaSyZh
import Derived.Orders
set_option linter.unusedVariables false
set_option linter.unusedSimpArgs false
namespace Go.Proofs.Ytghiofgomcihcaa
open Go.RowKit
structure Rec where
 o:Oper
 want:Bool
 nid:Nat
 eff:Eff
def FS.rec' (F:FS) (r:Rec):FS:=F.app r.o.dst r.nid r.eff
def opTs:List Operand→List Nat
 | []=>[]
 | .tmp t::l=>t::opTs l
 | _::l=>opTs l
theorem rp {t:Nat}:∀{l:List Operand},.tmp t∈l→t∈opTs l
 | x::l,h=>by
   rcases List.mem_cons.1 h with rfl | h
   ·exact List.mem_cons_self
   ·have ih:=rp h
    cases x with
    | tmp u=>exact List.mem_cons_of_mem _ ih
    | _=>exact ih
def gTs (ops:Array Oper) (o:Oper):List Nat:=
 match o.guard with
 | none=>[]
 | some (g,_)=>((ops[g]?).bind (·.dst)).toList
def Rec.ts (ops:Array Oper) (r:Rec):List Nat:=opTs r.o.op.operands.toList++gTs ops r.o
def hasN (t:Nat):List Nat→Bool
 | []=>false
 | x::l=>Nat.beq x t||hasN t l
def hasP (b o:Nat):List (Nat×Nat)→Bool
 | []=>false
 | (x,y)::l=>(Nat.beq x b&&Nat.beq y o)||hasP b o l
theorem yU {t:Nat} {l:List Nat}:hasN t l=false↔t ∉ l:=by
 induction l with
 | nil=>simp[hasN]
 | cons x l ih=>
   simp only[hasN,Bool.or_eq_false_iff,ih,List.mem_cons,not_or]
   constructor
   ·rintro ⟨h1,h2⟩
    exact⟨fun e=>by rw[e] at h1; simp at h1,h2⟩
   ·rintro ⟨h1,h2⟩
    refine⟨?_,h2⟩
    cases h:x.beq t
    ·rfl
    ·exact absurd (Nat.eq_of_beq_eq_true h).symm h1
theorem yT {b o:Nat} {l:List (Nat×Nat)}:hasP b o l=false↔(b,o) ∉ l:=by
 induction l with
 | nil=>simp[hasP]
 | cons x l ih=>
   obtain⟨x,y⟩:=x
   simp only[hasP,Bool.or_eq_false_iff,ih,List.mem_cons,not_or,Bool.and_eq_false_iff]
   constructor
   ·rintro ⟨h1,h2⟩
    refine⟨fun e=> ?_,h2⟩
    cases e
    rcases h1 with h1 | h1<;>simp at h1
   ·rintro ⟨h1,h2⟩
    refine⟨?_,h2⟩
    cases h:x.beq b
    ·exact .inl rfl
    ·cases h':y.beq o
     ·exact .inr rfl
     ·exact absurd (by rw[Nat.eq_of_beq_eq_true h,Nat.eq_of_beq_eq_true h']) h1
def wrC (l:List (Nat×Nat×C)):List (Nat×Nat):=l.map fun p=>(p.1,p.2.1)
def Rec.rid (r:Rec):List Nat:=(r.eff.re.rs r.nid).map (·.1)
def Rec.touch (r:Rec):List Nat:=r.eff.rd.map (·.1)++r.eff.wr.map (·.1)
def Rec.alid (r:Rec):List Nat:=match r.eff.al with | some _=>[r.nid] | none=>[]
def yQ (ops:Array Oper) (r s:Rec):Bool:=
 (r.o.dst.toList.all fun d=>!hasN d (s.ts ops) &&!hasN d s.o.dst.toList)&&(s.o.dst.toList.all fun d=>!hasN d (r.ts ops))&&
 ((wrC r.eff.wr).all fun p=>!hasP p.1 p.2 s.eff.rd &&!hasP p.1 p.2 (wrC s.eff.wr))&&((wrC s.eff.wr).all fun p=>!hasP p.1 p.2 r.eff.rd)&&
 (r.alid.all fun b=>!hasN b s.touch &&!hasN b s.alid)&&(s.alid.all fun b=>!hasN b r.touch)&&
 (r.rid.all fun b=>!hasN b s.eff.rr &&!hasN b s.rid)&&(s.rid.all fun b=>!hasN b r.eff.rr)
structure Indep (ops:Array Oper) (r s:Rec):Prop where
 d1:∀d,r.o.dst=some d→d ∉ s.ts ops
 d2:∀d,r.o.dst=some d→s.o.dst≠some d
 d3:∀d,s.o.dst=some d→d ∉ r.ts ops
 w1:∀p∈r.eff.wr,(p.1,p.2.1) ∉ s.eff.rd
 w2:∀p∈r.eff.wr,∀q∈s.eff.wr,(p.1,p.2.1)≠(q.1,q.2.1)
 w3:∀p∈s.eff.wr,(p.1,p.2.1) ∉ r.eff.rd
 a1:r.eff.al≠none→r.nid ∉ s.touch
 a2:r.eff.al≠none→s.eff.al≠none→r.nid≠s.nid
 a3:s.eff.al≠none→s.nid ∉ r.touch
 r1:∀b∈r.rid,b ∉ s.eff.rr
 r2:∀b∈r.rid,b ∉ s.rid
 r3:∀b∈s.rid,b ∉ r.eff.rr
theorem rO {ops:Array Oper} {r s:Rec} (h:yQ ops r s=true):Indep ops r s:=by
 simp only[yQ,Bool.and_eq_true,List.all_eq_true,Bool.not_eq_true',yU,yT,Option.mem_toList] at h
 obtain⟨⟨⟨⟨⟨⟨⟨h1,h2⟩,h3⟩,h4⟩,h5⟩,h6⟩,h7⟩,h8⟩:=h
 have hal:∀{x:Rec},x.eff.al≠none→x.nid∈x.alid:=fun {x} hx=>by
  unfold Rec.alid
  split
  ·simp
  ·rename_i hn; exact absurd hn hx
 refine⟨fun d hd=>(h1 d hd).1,fun d hd=>(h1 d hd).2,fun d hd=>h2 d hd,fun p hp=>(h3 _ (List.mem_map.2 ⟨p,hp,rfl⟩)).1,fun p hp q hq e=>(h3 _ (List.mem_map.2 ⟨p,hp,rfl⟩)).2 (List.mem_map.2 ⟨q,hq,e.symm⟩),
  fun p hp=>h4 _ (List.mem_map.2 ⟨p,hp,rfl⟩),fun hx=>(h5 _ (hal hx)).1,fun hx hy e=>(h5 _ (hal hx)).2 (e▸hal hy),fun hx=>h6 _ (hal hx),fun b hb=>(h7 b hb).1,fun b hb=>(h7 b hb).2,h8⟩
theorem Indep.symm {ops:Array Oper} {r s:Rec} (h:Indep ops r s):Indep ops s r:=
 ⟨h.d3,fun d hd e=>h.d2 d e hd,h.d1,h.w3,fun p hp q hq e=>h.w2 q hq p hp e.symm,h.w1,h.a3,fun hx hy e=>h.a2 hy hx e.symm,h.a1,h.r3,fun b hb hb'=>h.r2 b hb' hb,h.r1⟩
theorem oF (F:FS) (p:Nat×Nat×C) (b o:Nat):ldF (F.wr p) b o=if b=p.1∧o=p.2.1 then(ldF F b o).map (fun _=>p.2.2) else ldF F b o:=by
 unfold ldF FS.wr
 by_cases hb:b=p.1
 ·simp only[hb,if_true,true_and]
  cases F.box p.1 with
  | none=>simp
  | some x=>
    simp only[Option.map_some,Option.bind_some,List.getElem?_set]
    by_cases ho:o=p.2.1
    ·subst ho
     simp only[if_true]
     split
     ·rename_i hlt
      simp[List.getElem?_eq_getElem hlt]
     ·rename_i hlt
      simp[List.getElem?_eq_none (Nat.le_of_not_lt hlt)]
    ·rw[if_neg (fun e:p.2.1=o=>ho e.symm),if_neg ho]
 ·simp[hb]
theorem ge:∀{l:List (Nat×Nat×C)} {F:FS} {b o:Nat},(∀p∈l,(p.1,p.2.1)≠(b,o))→ldF (F.wrs l) b o=ldF F b o
 | [],_,_,_,_=>rfl
 | p::l,F,b,o,h=>by
   have h1:=ge (l:=l) (F:=F.wr p) (b:=b) (o:=o) (fun q hq=>h q (List.mem_cons_of_mem _ hq))
   have h2:=h p List.mem_cons_self
   show ldF ((F.wr p).wrs l) b o=_
   rw[h1,oF,if_neg (fun e=>h2 (by rw[e.1,e.2]))]
theorem gf:∀{l:List (Nat×Nat×C)} {F F':FS} {b o:Nat},ldF F b o=ldF F' b o→ldF (F.wrs l) b o=ldF (F'.wrs l) b o
 | [],_,_,_,_,h=>h
 | p::l,F,F',b,o,h=>by
   show ldF ((F.wr p).wrs l) b o=ldF ((F'.wr p).wrs l) b o
   exact gf (by rw[oF,oF,h])
theorem cN:∀{l:List (Nat×Nat×C)} {F:FS} {b o:Nat},(ldF (F.wrs l) b o).isSome=(ldF F b o).isSome
 | [],_,_,_=>rfl
 | p::l,F,b,o=>by
   have h1:(ldF ((F.wr p).wrs l) b o).isSome=_:=cN (l:=l)
   show(ldF ((F.wr p).wrs l) b o).isSome=_
   rw[h1,oF]
   split<;>simp
theorem abv (F:FS) (nid:Nat) (x:List C×Nat) (b o:Nat):ldF (F.new nid x) b o=if b=nid then x.1[o]? else ldF F b o:=by
 unfold ldF FS.new
 by_cases h:b=nid<;>simp[h]
theorem abu (F:FS) (d:Option Nat) (v:V) (b o:Nat):ldF (F.put d v) b o=ldF F b o:=rfl
theorem iC:∀{l:List (Nat×Nat×C)} {F:FS} {b:Nat},(F.wrs l).box b=none↔F.box b=none
 | [],_,_=>Iff.rfl
 | p::l,F,b=>by
   have h1:((F.wr p).wrs l).box b=none↔_:=iC (l:=l)
   show((F.wr p).wrs l).box b=none↔_
   rw[h1]
   unfold FS.wr
   by_cases h:b=p.1<;>simp[h]
structure Agree (ops:Array Oper) (r:Rec) (F F':FS):Prop where
 t:∀t∈r.ts ops,F.tmp t=F'.tmp t
 rd:∀p∈r.eff.rd,ldF F p.1 p.2=ldF F' p.1 p.2
 wr:∀p∈r.eff.wr,(ldF F p.1 p.2.1).isSome=(ldF F' p.1 p.2.1).isSome
 nw:r.eff.al≠none→(F.box r.nid=none↔F'.box r.nid=none)
 row:∀b∈r.eff.rr++r.rid,F.row b=F'.row b
theorem oX (F:FS) (d:Option Nat) (nid:Nat) (eff:Eff) (t:Nat):(F.app d nid eff).tmp t=if d=some t then eff.val else F.tmp t:=by
 unfold FS.app FS.put
 dsimp only
 by_cases h:d=some t
 ·simp[h]
 ·simp only[h,if_false]
  rw[(ay _ _).2.1]
  split
  ·rfl
  ·have:∀(l:List (Nat×Nat×C)) (F:FS),(F.wrs l).tmp=F.tmp:=by
    intro l
    induction l with
    | nil=>intro F; rfl
    | cons p l ih=>intro F; exact ih (F.wr p)
   rw[this]
theorem abt (F:FS) (l:List (Nat×Option RowOb)) (b o:Nat):ldF (F.rws l) b o=ldF F b o:=by unfold ldF; rw[(ay l F).1]
theorem gZ (F:FS) (d:Option Nat) (nid:Nat) (eff:Eff) (b o:Nat):ldF (F.app d nid eff) b o=match eff.al with | some x=>if b=nid then x.1[o]? else ldF F b o | none=>ldF (F.wrs eff.wr) b o:=by
 unfold FS.app
 rw[abu,abt]
 cases eff.al with
 | some x=>exact abv F nid x b o
 | none=>rfl
theorem er (F:FS) (d:Option Nat) (nid:Nat) (eff:Eff) (b:Nat):(F.app d nid eff).box b=none↔match eff.al with | some _=>b≠nid∧F.box b=none | none=>F.box b=none:=by
 unfold FS.app FS.put
 dsimp only
 rw[(ay _ _).1]
 cases eff.al with
 | some x=>
   unfold FS.new
   by_cases h:b=nid<;>simp[h]
 | none=>exact iC
theorem tL:∀(l:List (Nat×Nat×C)) (F:FS),(F.wrs l).lp=F.lp
 | [],F=>rfl
 | p::l,F=>tL l (F.wr p)
theorem lE:∀(l:List (Nat×Nat×C)) (F:FS),(F.wrs l).row=F.row
 | [],_=>rfl
 | p::l,F=>lE l (F.wr p)
theorem cZ:∀(l:List (Nat×Option RowOb)) (F:FS) (b:Nat),b ∉ l.map (·.1)→(F.rws l).row b=F.row b
 | [],_,_,_=>rfl
 | p::l,F,b,h=>by
   simp only[List.map_cons,List.mem_cons,not_or] at h
   have h1:=cZ l (F.rw1 p) b h.2
   show((F.rw1 p).rws l).row b=_
   rw[h1]
   simp[FS.rw1,h.1]
theorem cu:∀(l:List (Nat×Option RowOb)) (F F':FS) (b:Nat),F.row b=F'.row b→(F.rws l).row b=(F'.rws l).row b
 | [],_,_,_,h=>h
 | p::l,F,F',b,h=>cu l (F.rw1 p) (F'.rw1 p) b (by simp only[FS.rw1]; split<;>simp_all)
theorem pw (F:FS) (d:Option Nat) (nid:Nat) (eff:Eff):(F.app d nid eff).row=(F.rws (eff.re.rs nid)).row:=by
 unfold FS.app FS.put
 dsimp only
 funext b
 apply cu
 split
 ·rfl
 ·rw[lE]
theorem Agree.refl (ops:Array Oper) (r:Rec) (F:FS):Agree ops r F F:=⟨fun _ _=>rfl,fun _ _=>rfl,fun _ _=>rfl,fun _=>Iff.rfl,fun _ _=>rfl⟩
theorem Agree.trans {ops:Array Oper} {r:Rec} {F F' F'':FS} (h:Agree ops r F F') (h':Agree ops r F' F''):Agree ops r F F'':=
 ⟨fun t ht=>(h.t t ht).trans (h'.t t ht),fun p hp=>(h.rd p hp).trans (h'.rd p hp),fun p hp=>(h.wr p hp).trans (h'.wr p hp),fun hx=>(h.nw hx).trans (h'.nw hx),fun b hb=>(h.row b hb).trans (h'.row b hb)⟩
theorem Agree.symm {ops:Array Oper} {r:Rec} {F F':FS} (h:Agree ops r F F'):Agree ops r F' F:=
 ⟨fun t ht=>(h.t t ht).symm,fun p hp=>(h.rd p hp).symm,fun p hp=>(h.wr p hp).symm,fun hx=>(h.nw hx).symm,fun b hb=>(h.row b hb).symm⟩
theorem Agree.congr {ops:Array Oper} {r s:Rec} {F F':FS} (h:Agree ops r F F'):Agree ops r (F.rec' s) (F'.rec' s):=by
 unfold FS.rec'
 refine⟨fun t ht=>by rw[oX,oX,h.t t ht],fun p hp=> ?_,fun p hp=> ?_,fun hx=> ?_,fun b hb=>by rw[pw,pw]; exact cu _ _ _ b (h.row b hb)⟩
 ·rw[gZ,gZ]
  split
  ·rw[h.rd p hp]
  ·exact gf (h.rd p hp)
 ·rw[gZ,gZ]
  split
  ·split
   ·rfl
   ·exact h.wr p hp
  ·rw[cN,cN]; exact h.wr p hp
 ·rw[er,er]
  split
  ·rw[h.nw hx]
  ·exact h.nw hx
theorem Agree.step {ops:Array Oper} {r s:Rec} (hi:Indep ops s r) (F:FS):Agree ops r F (F.rec' s):=by
 unfold FS.rec'
 refine⟨fun t ht=> ?_,fun p hp=> ?_,fun p hp=> ?_,fun hx=> ?_,fun b hb=> ?_⟩
 ·rw[oX,if_neg (fun e=>hi.d1 t e ht)]
 ·rw[gZ]
  split
  ·rename_i x hal
   rw[if_neg (fun e=>hi.a1 (by rw[hal]; simp) (by rw[←e]; exact List.mem_append_left _ (List.mem_map.2 ⟨p,hp,rfl⟩)))]
  ·exact(ge (fun q hq e=>hi.w1 q hq (by rw[e]; exact hp))).symm
 ·rw[gZ]
  split
  ·rename_i x hal
   rw[if_neg (fun e=>hi.a1 (by rw[hal]; simp) (by rw[←e]; exact List.mem_append_right _ (List.mem_map.2 ⟨p,hp,rfl⟩)))]
  ·rw[cN]
 ·rw[er]
  split
  ·rename_i x hal
   constructor
   ·intro h; exact⟨fun e=>hi.a2 (by rw[hal]; simp) hx e.symm,h⟩
   ·exact fun h=>h.2
  ·exact Iff.rfl
 ·rw[pw,cZ]
  intro hm
  rcases List.mem_append.1 hb with hb | hb
  ·exact hi.r1 b hm hb
  ·exact hi.r2 b hm hb
theorem aae (F:FS) (p q:Nat×Nat×C) (h:(p.1,p.2.1)≠(q.1,q.2.1)):(F.wr p).wr q=(F.wr q).wr p:=by
 refine FS.ext' (fun _=>rfl) (fun b=> ?_) (fun _=>rfl) (fun _=>rfl)
 unfold FS.wr
 dsimp only
 by_cases h1:b=p.1
 ·by_cases h2:b=q.1
  ·have hpq:p.1=q.1:=h1.symm.trans h2
   have ho:p.2.1≠q.2.1:=fun e=>h (by rw[hpq,e])
   simp only[h1,hpq,if_true]
   cases F.box q.1 with
   | none=>rfl
   | some x=>simp[List.set_comm _ _ ho]
  ·simp[h1,h2,show¬p.1=q.1 from fun e=>h2 (h1.trans e)]
 ·by_cases h2:b=q.1
  ·simp[h1,h2,show¬q.1=p.1 from fun e=>h1 (h2.trans e)]
  ·simp[h1,h2]
theorem zn (p:Nat×Nat×C):∀(l:List (Nat×Nat×C)) (F:FS),(∀q∈l,(p.1,p.2.1)≠(q.1,q.2.1))→(F.wr p).wrs l=(F.wrs l).wr p
 | [],_,_=>rfl
 | q::l,F,h=>by
   show((F.wr p).wr q).wrs l=((F.wr q).wrs l).wr p
   rw[aae F p q (h q List.mem_cons_self)]
   exact zn p l (F.wr q) (fun x hx=>h x (List.mem_cons_of_mem _ hx))
theorem tK:∀(l m:List (Nat×Nat×C)) (F:FS),(∀p∈l,∀q∈m,(p.1,p.2.1)≠(q.1,q.2.1))→(F.wrs l).wrs m=(F.wrs m).wrs l
 | [],_,_,_=>rfl
 | p::l,m,F,h=>by
   show((F.wr p).wrs l).wrs m=((F.wrs m).wr p).wrs l
   rw[tK l m (F.wr p) (fun x hx=>h x (List.mem_cons_of_mem _ hx)),zn p m F (h p List.mem_cons_self)]
theorem pB (nid:Nat) (x:List C×Nat):∀(l:List (Nat×Nat×C)) (F:FS),(∀q∈l,q.1≠nid)→(F.new nid x).wrs l=(F.wrs l).new nid x
 | [],_,_=>rfl
 | q::l,F,h=>by
   show((F.new nid x).wr q).wrs l=((F.wr q).wrs l).new nid x
   have h1:=h q List.mem_cons_self
   have:(F.new nid x).wr q=(F.wr q).new nid x:=by
    refine FS.ext' (fun _=>rfl) (fun b=> ?_) (fun _=>rfl) (fun _=>rfl)
    unfold FS.wr FS.new
    dsimp only
    by_cases hb:b=nid
    ·simp[hb,show¬nid=q.1 from fun e=>h1 e.symm]
    ·simp[hb]
   rw[this]
   exact pB nid x l (F.wr q) (fun y hy=>h y (List.mem_cons_of_mem _ hy))
theorem wg (d:Option Nat) (v:V):∀(l:List (Nat×Nat×C)) (F:FS),(F.put d v).wrs l=(F.wrs l).put d v
 | [],_=>rfl
 | q::l,F=>wg d v l (F.wr q)
theorem px (d:Option Nat) (v:V):∀(l:List (Nat×Option RowOb)) (F:FS),(F.put d v).rws l=(F.rws l).put d v
 | [],_=>rfl
 | q::l,F=>px d v l (F.rw1 q)
theorem aaT (l:List (Nat×Option RowOb)) (m:List (Nat×Nat×C)) (F:FS):(F.rws l).wrs m=(F.wrs m).rws l:=by
 refine FS.ext' (fun t=> ?_) (fun b=> ?_) (fun b=> ?_) (fun b=>by rw[tL,(ay l F).2.2,(ay l _).2.2,tL])
 ·have t1:∀(m:List (Nat×Nat×C)) (F:FS),(F.wrs m).tmp=F.tmp:=by
   intro m
   induction m with
   | nil=>intro F; rfl
   | cons p m ih=>intro F; exact ih (F.wr p)
  rw[t1,(ay l F).2.1,(ay l _).2.1,t1]
 ·have b1:∀(m:List (Nat×Nat×C)) (F F':FS),F.box=F'.box→(F.wrs m).box=(F'.wrs m).box:=by
   intro m
   induction m with
   | nil=>intro F F' h; exact h
   | cons p m ih=>intro F F' h; exact ih _ _ (by simp only[FS.wr,h])
  rw[(ay l _).1,b1 m (F.rws l) F (ay l F).1]
 ·rw[lE]
  exact cu l F (F.wrs m) b (by rw[lE])
theorem aaV (l:List (Nat×Option RowOb)) (nid:Nat) (x:List C×Nat) (F:FS):(F.rws l).new nid x=(F.new nid x).rws l:=by
 refine FS.ext' (fun t=> ?_) (fun b=> ?_) (fun b=> ?_) (fun b=>by rw[(ay l _).2.2]; exact congrFun (ay l F).2.2 b)
 ·rw[(ay l _).2.1]; exact congrFun (ay l F).2.1 t
 ·rw[(ay l _).1]
  simp only[FS.new,(ay l F).1]
 ·exact cu l F (F.new nid x) b rfl
theorem aaU:∀(l m:List (Nat×Option RowOb)) (F:FS),(∀b∈l.map (·.1),b ∉ m.map (·.1))→(F.rws l).rws m=(F.rws m).rws l
 | l,m,F,h=>by
   refine FS.ext' (fun t=> ?_) (fun b=> ?_) (fun b=> ?_) (fun b=>by rw[(ay m _).2.2,(ay l _).2.2,(ay l _).2.2,(ay m _).2.2])
   ·rw[(ay m _).2.1,(ay l _).2.1,(ay l _).2.1,(ay m _).2.1]
   ·rw[(ay m _).1,(ay l _).1,(ay l _).1,(ay m _).1]
   ·by_cases hl:b∈l.map (·.1)
    ·rw[cZ m _ b (h b hl)]
     exact cu l F (F.rws m) b (cZ m F b (h b hl)).symm
    ·rw[cZ l _ b hl]
     exact cu m (F.rws l) F b (cZ l F b hl)
def Rec.bx (r:Rec) (F:FS):FS:=match r.eff.al with | some x=>F.new r.nid x | none=>F.wrs r.eff.wr
theorem qZ (r:Rec) (F:FS):F.rec' r=((r.bx F).rws (r.eff.re.rs r.nid)).put r.o.dst r.eff.val:=rfl
theorem aaa (r:Rec) (d:Option Nat) (v:V) (F:FS):r.bx (F.put d v)=(r.bx F).put d v:=by
 unfold Rec.bx
 split
 ·rfl
 ·exact wg d v _ F
theorem zZ (r:Rec) (l:List (Nat×Option RowOb)) (F:FS):r.bx (F.rws l)=(r.bx F).rws l:=by
 unfold Rec.bx
 split
 ·exact aaV l _ _ F
 ·exact aaT l _ F
theorem abU {ops:Array Oper} {r s:Rec} (h:Indep ops r s) (F:FS):s.bx (r.bx F)=r.bx (s.bx F):=by
 unfold Rec.bx
 cases hr:r.eff.al with
 | some x=>
   cases hs:s.eff.al with
   | some y=>
     refine FS.ext' (fun _=>rfl) (fun b=> ?_) (fun _=>rfl) (fun _=>rfl)
     unfold FS.new
     dsimp only
     have hne:=h.a2 (by rw[hr]; simp) (by rw[hs]; simp)
     by_cases h1:b=s.nid<;>by_cases h2:b=r.nid<;>simp[h1,h2]
     ·exact absurd (h2.symm.trans h1) hne
     ·intro e; exact absurd e.symm hne
     ·intro e; exact absurd e hne
   | none=>
     have hq:∀q∈s.eff.wr,q.1≠r.nid:=fun q hq e=>h.a1 (by rw[hr]; simp) (by rw[←e]; exact List.mem_append_right _ (List.mem_map.2 ⟨q,hq,rfl⟩))
     exact pB _ _ _ F hq
 | none=>
   cases hs:s.eff.al with
   | some y=>
     have hq:∀q∈r.eff.wr,q.1≠s.nid:=fun q hq e=>h.a3 (by rw[hs]; simp) (by rw[←e]; exact List.mem_append_right _ (List.mem_map.2 ⟨q,hq,rfl⟩))
     exact(pB _ _ _ F hq).symm
   | none=>exact tK _ _ F h.w2
theorem ra {ops:Array Oper} {r s:Rec} (h:Indep ops r s) (F:FS):(F.rec' r).rec' s=(F.rec' s).rec' r:=by
 have hp:∀F:FS,(F.put r.o.dst r.eff.val).put s.o.dst s.eff.val=(F.put s.o.dst s.eff.val).put r.o.dst r.eff.val:=by
  intro F
  refine FS.ext' (fun t=> ?_) (fun _=>rfl) (fun _=>rfl) (fun _=>rfl)
  unfold FS.put
  dsimp only
  by_cases h1:s.o.dst=some t<;>by_cases h2:r.o.dst=some t<;>simp[h1,h2]
  exact absurd h1 (h.d2 t h2)
 rw[qZ s,qZ r,qZ r,qZ s,aaa,zZ,px,hp,abU h,aaU _ _ _ (fun b hb=>h.r2 b hb),aaa,zZ,px]
end Go.Proofs.Ytghiofgomcihcaa
