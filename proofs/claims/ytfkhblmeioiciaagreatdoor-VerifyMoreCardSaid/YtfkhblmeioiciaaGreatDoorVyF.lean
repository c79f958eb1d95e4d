import Derived.Test.YtfkhblmeioiciaaGreatDoorVyA
import Derived.Test.YtfkhblmeioiciaaGreatDoorTzA
import Derived.Test.YtfkhblmeioiciaaGreatDoorLiE
set_option maxRecDepth 100000
set_option maxHeartbeats 8000000
set_option linter.defProp false
set_option linter.unusedVariables false
set_option linter.unusedSimpArgs false
namespace Go.Proofs.YtfkhblmeioiciaaGreatDoor
open Go Go.RowKit
def fE (s:Sta):List Int:=[s.r0.k,s.r1.k,s.r2.k,s.r3.k,s.r4.k,s.r5.k,s.r6.k,s.r7.k,s.r8.k,s.r9.k,s.r10.k]
def tnth (s:Sta) (d:Int):Ty:=⟨[s.r0.k,s.r1.k,s.r2.k,s.r3.k,s.r4.k,s.r5.k,s.r6.k,s.r7.k,s.r8.k,s.r9.k,s.r10.k].getD d.toNat 0,[s.r0.ul,s.r1.ul,s.r2.ul,s.r3.ul,s.r4.ul,s.r5.ul,s.r6.ul,s.r7.ul,s.r8.ul,s.r9.ul,s.r10.ul].getD d.toNat 0,[s.r0.uh,s.r1.uh,s.r2.uh,s.r3.uh,s.r4.uh,s.r5.uh,s.r6.uh,s.r7.uh,s.r8.uh,s.r9.uh,s.r10.uh].getD d.toNat 0,[s.r0.sl,s.r1.sl,s.r2.sl,s.r3.sl,s.r4.sl,s.r5.sl,s.r6.sl,s.r7.sl,s.r8.sl,s.r9.sl,s.r10.sl].getD d.toNat 0,[s.r0.sh,s.r1.sh,s.r2.sh,s.r3.sh,s.r4.sh,s.r5.sh,s.r6.sh,s.r7.sh,s.r8.sh,s.r9.sh,s.r10.sh].getD d.toNat 0,[s.r0.v,s.r1.v,s.r2.v,s.r3.v,s.r4.v,s.r5.v,s.r6.v,s.r7.v,s.r8.v,s.r9.v,s.r10.v].getD d.toNat 0,[s.r0.m,s.r1.m,s.r2.m,s.r3.m,s.r4.m,s.r5.m,s.r6.m,s.r7.m,s.r8.m,s.r9.m,s.r10.m].getD d.toNat 0,[s.r0.lo,s.r1.lo,s.r2.lo,s.r3.lo,s.r4.lo,s.r5.lo,s.r6.lo,s.r7.lo,s.r8.lo,s.r9.lo,s.r10.lo].getD d.toNat 0,[s.r0.hi,s.r1.hi,s.r2.hi,s.r3.hi,s.r4.hi,s.r5.hi,s.r6.hi,s.r7.hi,s.r8.hi,s.r9.hi,s.r10.hi].getD d.toNat 0⟩
def tite (c:Bool) (a b:Ty):Ty:=⟨if c=true then a.k else b.k,if c=true then a.ul else b.ul,if c=true then a.uh else b.uh,if c=true then a.sl else b.sl,if c=true then a.sh else b.sh,if c=true then a.v else b.v,if c=true then a.m else b.m,if c=true then a.lo else b.lo,if c=true then a.hi else b.hi⟩
def sreg (s:Sta) (d:Int) (t:Ty):Sta:=⟨tite (d==0) t s.r0,tite (d==1) t s.r1,tite (d==2) t s.r2,tite (d==3) t s.r3,tite (d==4) t s.r4,tite (d==5) t s.r5,tite (d==6) t s.r6,tite (d==7) t s.r7,tite (d==8) t s.r8,tite (d==9) t s.r9,tite (d==10) t s.r10,s.s0,s.s1,s.s2,s.s3,s.s4,s.s5,s.s6,s.s7⟩
def tyL (t:Ty) (r:List Int):List Int:=t.k::t.ul::t.uh::t.sl::t.sh::t.v::t.m::t.lo::t.hi::r
def staL (s:Sta):List Int:=tyL s.r0 (tyL s.r1 (tyL s.r2 (tyL s.r3 (tyL s.r4 (tyL s.r5 (tyL s.r6 (tyL s.r7 (tyL s.r8 (tyL s.r9 (tyL s.r10 (tyL s.s0 (tyL s.s1 (tyL s.s2 (tyL s.s3 (tyL s.s4 (tyL s.s5 (tyL s.s6 (tyL s.s7 ([])))))))))))))))))))
def lx (s:Sta) (n:Nat):Bool:=(List.range 11).any fun k=>n.testBit k&&(fE s).getD k 0==0
def dz (x:Ins) (s:Sta):Ty:=if x.br=true then tnth s x.s else tsc (vone (IntKind.u64.wrap x.imm))
theorem pM {p:Prog} {i:Int} (hl:p.l.length<=maxLen) (h:(bz p).2=0) (h0:0<=i) (h1:i<(p.l.length:Int)):imay (aa p.l i)=true:=by
 obtain⟨n,rfl⟩:=Int.eq_ofNat_of_zero_le h0
 have q:=(kn hl h).2.1 n (by omega)
 cases e:imay (aa p.l (n:Int)) with
 | true=>rfl
 | false=>rw[vZ e] at q;cases q
theorem xN:∀n,n<2048->0<n->Lib.ctz 64 n<11/\n.testBit (Lib.ctz 64 n)=true/\n &&& (n-1)<n/\opI .and .i64 (n:Int) (opI .sub .i64 (n:Int) 1)=((n &&& (n-1):Nat):Int)/\IntKind.u64.wrap (n:Int)=(n:Int)/\
  ∀k,k<11->(n &&& (n-1)).testBit k=(n.testBit k &&!(k==Lib.ctz 64 n)):=by decide +kernel
structure UInv (s:Sta) (R m:Nat):Prop where
 lt:m<2048
 sub:∀k,k<11->m.testBit k=true->R.testBit k=true
 set:∀k,k<11->R.testBit k=true->m.testBit k=false->(fE s).getD k 0≠0
theorem UInv.init {s:Sta} {R:Nat} (h:R<2048):UInv s R R:=⟨h,fun _ _ h=>h,fun k _ h1 h2=>by rw[h1] at h2;cases h2⟩
theorem UInv.next {s:Sta} {R m:Nat} (h:UInv s R m) (hm:0<m) (hk:((fE s).getD (tzI (IntKind.u64.wrap (m:Int))).toNat 0==0)=false):
  ∃m':Nat,opI .and .i64 (m:Int) (opI .sub .i64 (m:Int) 1)=(m':Int)/\UInv s R m'/\m'<m:=by
 obtain⟨b1,b2,b3,b4,b5,b6⟩:=xN m h.lt hm
 rw[b5] at hk
 have hk:=neI hk
 refine⟨m &&& (m-1),b4,⟨Nat.lt_trans b3 h.lt,fun k k1 k2=>h.sub k k1 ?_,fun k k1 k2 k3=> ?_⟩,b3⟩
 ·rw[b6 k k1,thm0] at k2;exact k2.1
 ·rw[b6 k k1] at k3
  cases e:m.testBit k with
  | false=>exact h.set k k1 k2 e
  | true=>
    rw[e] at k3
    have:k=Lib.ctz 64 m:=by simpa using k3
    rw[this];exact hk
theorem UInv.bad {s:Sta} {R m:Nat} (h:UInv s R m) (hm:0<m) (hk:((fE s).getD (tzI (IntKind.u64.wrap (m:Int))).toNat 0==0)=true):lx s R=true:=by
 obtain⟨b1,b2,b3,b4,b5,b6⟩:=xN m h.lt hm
 rw[b5] at hk
 unfold lx
 rw[List.any_eq_true]
 refine⟨Lib.ctz 64 m,List.mem_range.2 b1,?_⟩
 rw[h.sub _ b1 b2]
 exact hk
theorem UInv.good {s:Sta} {R:Nat} (h:UInv s R 0):lx s R=false:=by
 unfold lx
 rw[List.any_eq_false]
 intro k hk
 have k1:=List.mem_range.1 hk
 cases e:R.testBit k with
 | false=>simp
 | true=>
   have:=h.set k k1 e (Nat.zero_testBit k)
   simpa using this
theorem ary {m:Nat} (hm:0<m) (h:m<2048):0<=tzI (IntKind.u64.wrap (m:Int))/\tzI (IntKind.u64.wrap (m:Int))<11:=by
 obtain⟨b1,_,_,_,b5,_⟩:=xN m h hm
 rw[b5]
 unfold tzI
 rw[dT]
 omega
end Go.Proofs.YtfkhblmeioiciaaGreatDoor
