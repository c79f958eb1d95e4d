import Derived.Test.YtfkhblmeioiciaaGreatDoorSyZe
set_option maxRecDepth 100000
set_option maxHeartbeats 8000000
set_option linter.defProp false
set_option linter.unusedSimpArgs false
set_option linter.unusedVariables false
namespace Go.Proofs.YtfkhblmeioiciaaGreatDoor
open Go Go.RowKit
theorem eqI {a b:Int} (h:(a==b)=true):a=b:=by simpa using h
theorem neI {a b:Int} (h:(a==b)=false):a≠b:=by simpa using h
structure Ins where
 k:Int
 op:Int
 w:Int
 sz:Int
 br:Bool
 d:Int
 s:Int
 off:Int
 imm:Int
structure Prog where
 ctx:Int
 l:List (List Int)
def bO (n:Int):Bool:=n==1||(n==2||(n==4||n==8))
def immz (x:Ins):Ins:=if x.br=true then {x with s:=0,br:=false} else {x with imm:=0,br:=false}
def bL (x:Ins):Ins×Bool:=
 if x.k=0 then({immz x with op:=0,w:=0,d:=0},(decide (0<=x.op)&&decide (x.op<=12))&&((x.w==32||x.w==64)&&(decide (x.d<10)&&(!(x.op==8)||(!x.br&&x.imm==0)))))
 else if x.k=1 then({x with sz:=0,d:=0,s:=0,off:=0},bO x.sz&&decide (x.d<10))
 else if x.k=2 then({x with sz:=0,d:=0,s:=0,off:=0},bO x.sz)
 else if x.k=3 then({immz x with op:=0,d:=0,off:=0},decide (0<=x.op)&&decide (x.op<=10))
 else if x.k=4 then({x with off:=0},true)
 else if x.k=5 then({x with imm:=0},decide (0<=x.imm)&&decide (x.imm<=15))
 else if x.k=6 then(x,true)
 else(x,false)
def oG (x y:Ins):Bool:=y.k==x.k&&(y.op==0&&(y.w==0&&(y.sz==0&&(!y.br&&(y.d==0&&(y.s==0&&(y.off==0&&y.imm==0)))))))
def lL (x:Ins):Bool:=(decide (0<=x.d)&&decide (x.d<=10))&&((decide (0<=x.s)&&decide (x.s<=10))&&((decide (-32768<=x.off)&&decide (x.off<=32767))&&(decide (-2147483648<=x.imm)&&decide (x.imm<=2147483647))))
def imay (x:Ins):Bool:=lL x&&((bL x).2&&oG x (bL x).1)
def itgt (i:Int) (x:Ins):Int×Bool:=
 if(x.k=3\/x.k=4)/\((decide (-1099511627776<=i)&&decide (i<=1099511627776))&&(decide (-1099511627776<=x.off)&&decide (x.off<=1099511627776)))=true then(opI .add .i64 (opI .add .i64 i 1) x.off,true) else(0,false)
def sF (n:Int):Int:=if(decide (0<=n)&&decide (n<=15))=true then opI .rem .i64 n 6 else 0
def bit1 (n:Int):Int:=opI .shl .i64 1 n
def vrd (x:Ins):Int:=
 if imay x=true then
  if x.k=0 then(if x.op=11 then(if x.br=true then bit1 x.s else 0) else opI .or .i64 (bit1 x.d) (if x.br=true then bit1 x.s else 0))
  else if x.k=1 then bit1 x.s
  else if x.k=2 then opI .or .i64 (bit1 x.d) (bit1 x.s)
  else if x.k=3 then opI .or .i64 (bit1 x.d) (if x.br=true then bit1 x.s else 0)
  else if x.k=5 then opI .sub .i64 (opI .shl .i64 1 (opI .add .i64 (sF x.imm) 1)) 2
  else if x.k=6 then 1 else 0
 else 0
def vwr (x:Ins):Int:=if imay x=true then(if x.k=0\/x.k=1 then bit1 x.d else if x.k=5 then 63 else 0) else 0
theorem pL {x:Ins} (h:imay x=true):0<=x.d/\x.d<=10/\0<=x.s/\x.s<=10 /\ -32768<=x.off/\x.off<=32767/\0<=x.k/\x.k<=6:=by
 unfold imay lL at h
 simp only[thm0,bl] at h
 obtain⟨⟨⟨a,b⟩,⟨c,d⟩,⟨e,f⟩,_⟩,h2,_⟩:=h
 have:0<=x.k/\x.k<=6:=by
  unfold bL at h2
  split at h2;· omega
  split at h2;· omega
  split at h2;· omega
  split at h2;· omega
  split at h2;· omega
  split at h2;· omega
  split at h2;· omega
  cases h2
 omega
theorem ko (n:Int):0<=sF n/\sF n<=5:=by
 unfold sF
 split
 ·rename_i h
  simp only[thm0,bl] at h
  show 0<=n.tmod 6/\n.tmod 6<=5
  rw[Int.tmod_eq_emod_of_nonneg h.1]
  omega
 ·omega
theorem akK {i:Int} {x:Ins} (hk:x.k=3\/x.k=4) (h1:(decide (-1099511627776<=i)&&decide (i<=1099511627776))=true) (h2:(decide (-1099511627776<=x.off)&&decide (x.off<=1099511627776))=true):itgt i x=(opI .add .i64 (opI .add .i64 i 1) x.off,true):=by
 unfold itgt;rw[if_pos ⟨hk,by rw[h1,h2];rfl⟩]
theorem akM {i:Int} {x:Ins} (h1:(decide (-1099511627776<=i)&&decide (i<=1099511627776))=false):itgt i x=(0,false):=by
 unfold itgt;rw[if_neg (fun h=>by rw[h1] at h;exact absurd h.2 (by simp))]
theorem akL {i:Int} {x:Ins} (h2:(decide (-1099511627776<=x.off)&&decide (x.off<=1099511627776))=false):itgt i x=(0,false):=by
 unfold itgt;rw[if_neg (fun h=>by rw[h2] at h;exact absurd h.2 (by simp))]
theorem aqJ {i:Int} {x:Ins} (h3:(x.k==3)=false) (h4:(x.k==4)=false):itgt i x=(0,false):=by
 unfold itgt;rw[if_neg (fun h=>by rcases h.1 with h | h<;>simp[h] at h3 h4)]
theorem aoB {n:Int} (h:(decide (0<=n)&&decide (n<=15))=true):sF n=opI .rem .i64 n 6:=if_pos h
theorem aoC {n:Int} (h:(decide (0<=n)&&decide (n<=15))=false):sF n=0:=if_neg (by rw[h];simp)
def aa (l:List (List Int)) (i:Int):Ins:=⟨gt l i 0,gt l i 1,gt l i 2,gt l i 3,gt l i 4==1,gt l i 5,gt l i 6,gt l i 7,gt l i 8⟩
theorem ab (l:List (List Int)) (i:Int):(⟨gt l i 0,gt l i 1,gt l i 2,gt l i 3,gt l i 4==1,gt l i 5,gt l i 6,gt l i 7,gt l i 8⟩:Ins)=aa l i:=rfl
def Prog.last (p:Prog):Int:=opI .sub .i64 (p.l.length:Int) 1
def lj (p:Prog) (n:Int):Option Int:=
 if imay (aa p.l n)=false then some 31
 else if(itgt n (aa p.l n)).2=true/\(decide (0<=(itgt n (aa p.l n)).1)&&decide ((itgt n (aa p.l n)).1<=p.last))=false then some 32 else none
def scan (p:Prog):Nat->Nat->Option (Int×Int)
 | 0,_=>none
 | m+1,n=>match lj p n with
   | some e=>some (n,e)
   | none=>scan p m (n+1)
def bz (p:Prog):Int×Int:=
 if(decide (0<=p.ctx)&&decide (p.ctx<=256))=false then(0,2)
 else if(decide (0<=p.last)&&decide (p.last<=63))=false then(0,3)
 else match scan p p.l.length 0 with
  | some r=>r
  | none=>if(aa p.l p.last).k=4\/(aa p.l p.last).k=6 then(0,0) else(p.last,33)
theorem pN {p:Prog} (c0:(decide (0<=p.ctx)&&decide (p.ctx<=256))=false):bz p=(0,2):=by unfold bz;rw[if_pos c0]
theorem abr {p:Prog} (c0:(decide (0<=p.ctx)&&decide (p.ctx<=256))=true) (c1:(decide (0<=p.last)&&decide (p.last<=63))=false):bz p=(0,3):=by
 unfold bz;rw[if_neg (by rw[c0];simp),if_pos c1]
theorem ug {p:Prog} {n:Nat} (h:n<p.l.length) (hb:lj p n=none):scan p (p.l.length-n) n=scan p (p.l.length-(n+1)) (n+1):=by
 rw[show p.l.length-n=(p.l.length-(n+1))+1 by omega]
 simp only[scan,hb]
theorem pO {p:Prog} {n:Nat} {e:Int} (c0:(decide (0<=p.ctx)&&decide (p.ctx<=256))=true) (c1:(decide (0<=p.last)&&decide (p.last<=63))=true) (hs:scan p p.l.length 0=scan p (p.l.length-n) n) (h:n<p.l.length) (hb:lj p n=some e):bz p=((n:Int),e):=by
 unfold bz
 rw[if_neg (by rw[c0];simp),if_neg (by rw[c1];simp),hs,show p.l.length-n=(p.l.length-(n+1))+1 by omega]
 simp only[scan,hb]
theorem lb {p:Prog} {n:Nat} (c0:(decide (0<=p.ctx)&&decide (p.ctx<=256))=true) (c1:(decide (0<=p.last)&&decide (p.last<=63))=true) (hs:scan p p.l.length 0=scan p (p.l.length-n) n) (h:n=p.l.length):bz p=if(aa p.l p.last).k=4\/(aa p.l p.last).k=6 then(0,0) else(p.last,33):=by
 unfold bz
 rw[if_neg (by rw[c0];simp),if_neg (by rw[c1];simp),hs,h,Nat.sub_self]
 rfl
theorem vZ {p:Prog} {n:Int} (h:imay (aa p.l n)=false):lj p n=some 31:=by unfold lj;rw[if_pos h]
theorem aaM {p:Prog} {n:Int} (h:imay (aa p.l n)=true) (h2:(itgt n (aa p.l n)).2=true) (h3:(decide (0<=(itgt n (aa p.l n)).1)&&decide ((itgt n (aa p.l n)).1<=p.last))=false):lj p n=some 32:=by
 unfold lj;rw[if_neg (by rw[h];simp),if_pos ⟨h2,h3⟩]
theorem aaN {p:Prog} {n:Int} (h:imay (aa p.l n)=true) (h2:(itgt n (aa p.l n)).2=false\/(decide (0<=(itgt n (aa p.l n)).1)&&decide ((itgt n (aa p.l n)).1<=p.last))=true):lj p n=none:=by
 unfold lj;rw[if_neg (by rw[h];simp),if_neg (fun q=>by rcases h2 with h2 | h2<;>rw[h2] at q<;>simp at q)]
theorem xR {p:Prog} (c1:(decide (0<=p.last)&&decide (p.last<=63))=true) (hl:p.l.length<=maxLen):p.last=(p.l.length:Int)-1/\1<=p.l.length/\p.l.length<=64:=by
 simp only[thm0,bl] at c1
 have e:p.last=(p.l.length:Int)-1:=by
  unfold Prog.last
  show IntKind.i64.wrap ((p.l.length:Int)-1)=_
  rw[aR];simp[maxLen] at hl;omega
 omega
theorem addN {n m:Nat} (h:n<m) (hm:m<=maxLen):opI .add .i64 (n:Int) 1=((n+1:Nat):Int):=by
 show IntKind.i64.wrap ((n:Int)+1)=_
 rw[aR];simp[maxLen] at hm;omega
end Go.Proofs.YtfkhblmeioiciaaGreatDoor
