import Derived.Test.YtghiofgomcihcaaMmZ
import Derived.Test.YtghiofgomcihcaaLiE
import Derived.Test.YtghiofgomcihcaaBtZ
set_option linter.unusedSimpArgs false
set_option linter.unusedVariables false
set_option linter.unusedVariables false
set_option linter.unusedSimpArgs false
namespace Go.Proofs.Ytghiofgomcihcaa
open Go Go.RowKit
def okop (op l:Int):Bool:=(decide (0≤op)&&decide (op≤12))&&cR l
def okcc (cc l:Int):Bool:=(decide (0≤cc)&&decide (cc≤10))&&cR l
def dov (op l a b:Int):Int:=if okop op l=true then zdo op l a b else 0
def wP (cc l a b:Int):Bool:=okcc cc l&&iE cc l a b
def ai (x:Ins):Int:=
 if x.k=0∨x.k=3 then(if x.br=true then opI .or .i64 (if x.k=3∨x.op≠11 then bit1 x.d else 0) (bit1 x.s) else if x.k=3∨x.op≠11 then bit1 x.d else 0)
 else if x.k=2 then opI .or .i64 (bit1 x.d) (bit1 x.s)
 else if x.k=1 then bit1 x.s
 else if x.k=5 then opI .sub .i64 (opI .shl .i64 1 (opI .add .i64 (bo x.imm) 1)) 2
 else if x.k=6 then 1 else 0
structure Ms where
 rg:List Int
 st:Int
 pc:Int
 an:List (List Int)
 tr:List (List Int)
 cx:List (List Int)
 fm:List (List Int)
def Ms.mem (m:Ms):Mem:=memB [] m.cx m.fm []
def Ms.r (m:Ms) (i:Int):Int:=m.rg.getD i.toNat 0
def Ms.sec (m:Ms) (x:Ins):Int:=if x.br=true then m.r x.s else IntKind.u64.wrap x.imm
def Ms.set (m:Ms) (i v:Int):Ms:={m with rg:=m.rg.set i.toNat v,st:=opI .or .i64 m.st (bit1 i)}
def adr (a off:Int):Int:=opI .add .u64 a (IntKind.u64.wrap off)
def argR (rg:List Int) (n:Int):List (List Int):=((rg.map fun v=>[v]).take (opI .add .i64 1 n).toNat).drop (1:Int).toNat
def acF (rg:List Int) (num ans n:Int):List Int:=[num,ans,IntKind.i64.wrap ((argR rg n).length:Int),gt (argR rg n) 0 0,gt (argR rg n) 1 0,gt (argR rg n) 2 0,gt (argR rg n) 3 0,gt (argR rg n) 4 0]
def clr5 (st:Int):Int:=opI .andNot .i64 (opI .andNot .i64 (opI .andNot .i64 (opI .andNot .i64 (opI .andNot .i64 (opI .or .i64 st 1) 2) 4) 8) 16) 32
def Ms.call (m:Ms) (x:Ins):Ms:=
 {m with rg:=[gt m.an 0 0,0,0,0,0,0]++m.rg.drop 6,st:=clr5 m.st,an:=m.an.drop (1:Int).toNat,tr:=m.tr++[acF m.rg x.imm (gt m.an 0 0) (bo x.imm)]}
def stC (m:Ms) (a n v:Int):List (List Int):=if inr 2097152 m.cx a n then putL m.cx (a-2097152).toNat v n.toNat else m.cx
def stF (m:Ms) (a n v:Int):List (List Int):=if inr 3145728 m.fm a n then putL m.fm (a-3145728).toNat v n.toNat else m.fm
def stOk (m:Ms) (a n:Int):Bool:=inr 2097152 m.cx a n||inr 3145728 m.fm a n
def mC (m:Ms) (x:Ins):Int:=
 if opI .andNot .i64 (ai x) m.st≠0 then 3
 else if x.k=1 then(if rdE m.mem (adr (m.r x.s) x.off) (IntKind.i64.wrap x.sz)=0 then 0 else 3)
 else if x.k=2 then(if stOk m (adr (m.r x.d) x.off) (IntKind.i64.wrap x.sz)=true then 0 else 3)
 else if x.k=5 then(if m.an.length=0 then 2 else 0)
 else if x.k=6 then 1 else 0
def iH (m:Ms) (x:Ins):Ms:=
 if x.k=0 then m.set x.d (dov x.op x.w (m.r x.d) (m.sec x))
 else if x.k=1 then m.set x.d (rdV m.mem (adr (m.r x.s) x.off) (IntKind.i64.wrap x.sz))
 else if x.k=2 then {m with cx:=stC m (adr (m.r x.d) x.off) (IntKind.i64.wrap x.sz) (m.r x.s),fm:=stF m (adr (m.r x.d) x.off) (IntKind.i64.wrap x.sz) (m.r x.s)}
 else if x.k=5 then m.call x else m
def pcX (m:Ms) (x:Ins):Int:=
 if x.k=4∨(x.k=3∧wP x.op 64 (m.r x.d) (m.sec x)=true) then(itgt m.pc x).1 else opI .add .i64 m.pc 1
def halt (p:Prog) (m:Ms):Int:=mC m (ae p.l m.pc)
def nxt (p:Prog) (m:Ms):Ms:={iH m (ae p.l m.pc) with pc:=pcX m (ae p.l m.pc)}
def exec (p:Prog):Nat→Ms→Int×Int×Ms
 | 0,m=>(0,0,m)
 | f+1,m=>if halt p m=0 then exec p f (nxt p m) else(halt p m,(f:Int),m)
def ms0 (cx an:List (List Int)):Ms:=⟨[0,2097152,0,0,0,0,0,0,0,0,3145792],1026,0,an,[],cx,List.replicate (64:Int).toNat [0]⟩
structure Out where
 kind:Int
 r0:Int
 ctx:List (List Int)
 tr:List (List Int)
 left:Int
def acZ (z:Int×Int×Ms):Out:=⟨z.1,if z.1=1 then z.2.2.r 0 else 0,z.2.2.cx,z.2.2.tr,z.2.1⟩
def out0:Out:=⟨0,0,[],[],0⟩
def bq (p:Prog) (cx:List (List Int)) (fu:Int):Int:=
 if(aF p).2≠0 then(aF p).2
 else if(cx.length:Int)≠p.ctx∨fu<0∨10000<fu then 2
 else 0
def mrun (p:Prog) (cx an:List (List Int)) (fu:Int):Out×Int:=
 if bq p cx fu≠0 then(out0,bq p cx fu) else(acZ (exec p fu.toNat (ms0 cx an)),0)
theorem acW {r0 r1 r2 r3 r4 r5 r6 r7 r8 r9 r10 d v:Int} (h0:0≤d) (h1:d≤10):
  [if(d==0)=true then v else r0,if(d==1)=true then v else r1,if(d==2)=true then v else r2,if(d==3)=true then v else r3,if(d==4)=true then v else r4,if(d==5)=true then v else r5,if(d==6)=true then v else r6,if(d==7)=true then v else r7,if(d==8)=true then v else r8,if(d==9)=true then v else r9,if(d==10)=true then v else r10]=[r0,r1,r2,r3,r4,r5,r6,r7,r8,r9,r10].set d.toNat v:=by
 have hd:d=0∨d=1∨d=2∨d=3∨d=4∨d=5∨d=6∨d=7∨d=8∨d=9∨d=10:=by omega
 rcases hd with rfl | rfl | rfl | rfl | rfl | rfl | rfl | rfl | rfl | rfl | rfl<;>rfl
def msD (ds:List Dt) (o:Nat):Ms:=⟨[dI ds (o+1),dI ds (o+2),dI ds (o+3),dI ds (o+4),dI ds (o+5),dI ds (o+6),dI ds (o+7),dI ds (o+8),dI ds (o+9),dI ds (o+10),dI ds (o+11)],dI ds (o+12),dI ds (o+77),dL ds (o+79),dL ds (o+80),dL ds (o+81),dL ds (o+82)⟩
structure RunAt (p:Prog) (cx an:List (List Int)) (fu:Int) (left:Int) (m:Ms):Prop where
 lo:0≤left
 hi:left≤fu
 rn:exec p fu.toNat (ms0 cx an)=exec p left.toNat m
 pc0:0≤m.pc
 pc1:m.pc<(p.l.length:Int)
 fm:m.fm.length=64
 cxl:m.cx.length=cx.length
 tr:(m.tr.length:Int)+left≤fu
theorem RunAt.init {p:Prog} {cx an:List (List Int)} {fu:Int} (h0:0≤fu) (hl:1≤p.l.length):RunAt p cx an fu fu (ms0 cx an):=
 ⟨h0,Int.le_refl _,rfl,Int.le_refl _,by show(0:Int)<_; omega,List.length_replicate,rfl,by show(0:Int)+fu≤fu; omega⟩
theorem abG {p:Prog} {left:Int} {m:Ms} (h:0<left) (hh:halt p m=0):exec p left.toNat m=exec p (left-1).toNat (nxt p m):=by
 rw[show left.toNat=(left-1).toNat+1 by omega]
 simp only[exec,hh,if_true]
theorem mG {p:Prog} {left:Int} {m:Ms} (h:0<left) (hh:halt p m≠0):exec p left.toNat m=(halt p m,left-1,m):=by
 rw[show left.toNat=(left-1).toNat+1 by omega]
 simp only[exec,if_neg hh]
 rw[Int.toNat_of_nonneg (by omega)]
theorem mF {p:Prog} {left:Int} {m:Ms} (h0:0≤left) (h:¬0<left):exec p left.toNat m=(0,0,m):=by
 rw[show left.toNat=0 by omega]
 rfl
theorem aak (m:Ms) (a n v:Int):(stC m a n v).length=m.cx.length:=by
 unfold stC
 split
 ·rw[au]
 ·rfl
theorem aaj (m:Ms) (a n v:Int):(stF m a n v).length=m.fm.length:=by
 unfold stF
 split
 ·rw[au]
 ·rfl
theorem tG (m:Ms) (x:Ins):(iH m x).cx.length=m.cx.length∧(iH m x).fm.length=m.fm.length∧((iH m x).tr.length≤m.tr.length+1):=by
 unfold iH
 split
 ·exact⟨rfl,rfl,Nat.le_succ _⟩
 ·split
  ·exact⟨rfl,rfl,Nat.le_succ _⟩
  ·split
   ·exact⟨aak _ _ _ _,aaj _ _ _ _,Nat.le_succ _⟩
   ·split
    ·exact⟨rfl,rfl,by simp[Ms.call]⟩
    ·exact⟨rfl,rfl,Nat.le_succ _⟩
theorem aci {p:Prog} (hp:p.l.length≤maxLen) (hok:(aF p).2=0) {m:Ms} (h0:0≤m.pc) (h1:m.pc<(p.l.length:Int)) (hh:halt p m=0):0≤pcX m (ae p.l m.pc)∧pcX m (ae p.l m.pc)<(p.l.length:Int):=by
 obtain⟨⟨hl,n1,n64⟩,hall,hlast⟩:=cA hp hok
 obtain⟨n,hn⟩:∃n:Nat,m.pc=(n:Int):=⟨m.pc.toNat,by omega⟩
 have hb:=hall n (by omega)
 rw[←hn] at hb
 unfold fB at hb
 split at hb
 ·cases hb
 ·rename_i hmay
  split at hb
  ·cases hb
  ·rename_i hto
   have hmay:imay (ae p.l m.pc)=true:=by simpa using hmay
   have hd:=aZ hmay
   generalize hx:ae p.l m.pc=x at *
   unfold pcX
   split
   ·rename_i hk
    have hk':x.k=3∨x.k=4:=by
     rcases hk with hk | hk
     ·exact .inr hk
     ·exact .inl hk.1
    have hy:(itgt m.pc x).2=true:=by
     rw[kX hk' (by rw[Bool.and_eq_true,decide_eq_true_eq,decide_eq_true_eq]; omega) (by rw[Bool.and_eq_true,decide_eq_true_eq,decide_eq_true_eq]; omega)]
    have:=fun h=>hto ⟨hy,h⟩
    have h9:(decide (0≤(itgt m.pc x).1)&&decide ((itgt m.pc x).1≤p.last))=true:=by simpa using this
    rw[Bool.and_eq_true,decide_eq_true_eq,decide_eq_true_eq] at h9
    omega
   ·rename_i hk
    have e1:opI .add .i64 m.pc 1=m.pc+1:=wrI (by omega) (by omega)
    rw[e1]
    refine⟨by omega,?_⟩
    rcases Int.lt_or_le (m.pc+1) p.l.length with h2 | h2
    ·exact h2
    ·exfalso
     have h3:m.pc=p.last:=by omega
     rw[←h3,hx] at hlast
     rcases hlast with h4 | h4
     ·exact hk (.inl h4)
     ·unfold halt mC at hh
      rw[hx] at hh
      split at hh
      ·cases hh
      ·simp[h4] at hh
theorem RunAt.go {p:Prog} {cx an:List (List Int)} {fu left left':Int} {m m':Ms} (h:RunAt p cx an fu left m) (hp:p.l.length≤maxLen) (hok:(aF p).2=0) (hf:fu≤10000) (hl:0<left) (hh:halt p m=0) (hm:m'=nxt p m) (he:left'=opI .sub .i64 left 1):
  RunAt p cx an fu left' m'∧left'.toNat<left.toNat:=by
 have e1:opI .sub .i64 left 1=left-1:=by have:=h.hi; exact wrI (by omega) (by omega)
 subst hm
 rw[he,e1]
 obtain⟨k1,k2,k3⟩:=tG m (ae p.l m.pc)
 obtain⟨q1,q2⟩:=aci hp hok h.pc0 h.pc1 hh
 refine⟨⟨by omega,by have:=h.hi; omega,h.rn.trans (abG hl hh),q1,q2,?_,?_,?_⟩,by omega⟩
 ·exact k2.trans h.fm
 ·exact k1.trans h.cxl
 ·have:=h.tr
  show((iH m (ae p.l m.pc)).tr.length:Int)+(left-1)≤fu
  omega
end Go.Proofs.Ytghiofgomcihcaa
