import Derived.Test.YtfkhblmeioiciaaGreatDoorVk
set_option maxRecDepth 100000
set_option maxHeartbeats 8000000
set_option linter.defProp false
set_option linter.unusedVariables false
set_option linter.unusedSimpArgs false
namespace Go.Proofs.YtfkhblmeioiciaaGreatDoor
open Go Go.RowKit
structure Ty where
 k:Int
 ul:Int
 uh:Int
 sl:Int
 sh:Int
 v:Int
 m:Int
 lo:Int
 hi:Int
def Ty.s (t:Ty):Sc:=⟨t.ul,t.uh,t.sl,t.sh,t.v,t.m⟩
def ty (k:Int) (s:Sc) (lo hi:Int):Ty:=⟨k,s.ul,s.uh,s.sl,s.sh,s.v,s.m,lo,hi⟩
theorem Ty.eta_s (t:Ty):(⟨t.ul,t.uh,t.sl,t.sh,t.v,t.m⟩:Sc)=t.s:=rfl
structure Sta where
 r0:Ty
 r1:Ty
 r2:Ty
 r3:Ty
 r4:Ty
 r5:Ty
 r6:Ty
 r7:Ty
 r8:Ty
 r9:Ty
 r10:Ty
 s0:Ty
 s1:Ty
 s2:Ty
 s3:Ty
 s4:Ty
 s5:Ty
 s6:Ty
 s7:Ty
def tnil:Ty:=⟨0,0,0,0,0,0,0,0,0⟩
def fV:Ty:=ty 1 vall 0 0
def dm (t:Ty):Bool:=(t.ul==0)&&((t.uh==0)&&((t.sl==0)&&((t.sh==0)&&((t.v==0)&&(t.m==0)))))
def tok (t:Ty):Bool:=
 if t.k=0 then dm t&&((t.lo==0)&&(t.hi==0))
 else if t.k=1 then vmay t.s&&((t.lo==0)&&(t.hi==0))
 else if t.k=2\/t.k=3 then dm t&&(decide (t.lo<=t.hi)&&(decide (-1048576<=t.lo)&&decide (t.hi<=1048576)))
 else false
def tset (t:Ty):Bool:=tok t &&!(t.k==0)
def smay (s:Sta):Bool:=
 tok s.r0&&(tok s.r1&&(tok s.r2&&(tok s.r3&&(tok s.r4&&(tok s.r5&&(tok s.r6&&(tok s.r7&&(tok s.r8&&(tok s.r9&&(tok s.r10&&
 (tset s.s0&&(tset s.s1&&(tset s.s2&&(tset s.s3&&(tset s.s4&&(tset s.s5&&(tset s.s6&&tset s.s7)))))))))))))))))
def arC (t:Ty):Int:=if t.k=2 then 2097152 else 3145728
def toff (t:Ty) (v:Int):Int:=IntKind.i64.wrap (IntKind.u64.wrap (v-arC t))
def arB (t:Ty) (v:Int):Bool:=
 tok t&&(if t.k=0 then true else if t.k=1 then vhas t.s v else(decide (t.lo<=toff t v)&&decide (toff t v<=t.hi)))
def ady:Sta:=⟨tnil,⟨2,0,0,0,0,0,0,0,0⟩,tnil,tnil,tnil,tnil,tnil,tnil,tnil,tnil,⟨3,0,0,0,0,0,0,64,64⟩,
 ty 1 (vone 0) 0 0,ty 1 (vone 0) 0 0,ty 1 (vone 0) 0 0,ty 1 (vone 0) 0 0,ty 1 (vone 0) 0 0,ty 1 (vone 0) 0 0,ty 1 (vone 0) 0 0,ty 1 (vone 0) 0 0⟩
def tlo (w:Bool) (a b:Ty):Int:=if w=true/\min a.lo b.lo<a.lo then -1048576 else min a.lo b.lo
def thi (w:Bool) (a b:Ty):Int:=if w=true/\a.hi<max a.hi b.hi then 1048576 else max a.hi b.hi
def eN (w t:Bool) (a b:Ty):Ty:=
 if a.k=0\/b.k=0 then tnil
 else if a.k≠b.k then fV
 else if a.k=1 then ty 1 (if w=true then vwid a.s b.s else fT a.s b.s) 0 0
 else⟨a.k,0,0,0,0,0,0,tlo t a b,thi t a b⟩
def ew (w:Bool) (a b:Ty):Ty:=eN w w a b
def smap (w:Bool) (a b:Sta):Sta:=⟨ew w a.r0 b.r0,ew w a.r1 b.r1,ew w a.r2 b.r2,ew w a.r3 b.r3,ew w a.r4 b.r4,ew w a.r5 b.r5,ew w a.r6 b.r6,ew w a.r7 b.r7,ew w a.r8 b.r8,ew w a.r9 b.r9,ew w a.r10 b.r10,
 ew w a.s0 b.s0,ew w a.s1 b.s1,ew w a.s2 b.s2,ew w a.s3 b.s3,ew w a.s4 b.s4,ew w a.s5 b.s5,ew w a.s6 b.s6,ew w a.s7 b.s7⟩
def snil:Sta:=⟨tnil,tnil,tnil,tnil,tnil,tnil,tnil,tnil,tnil,tnil,tnil,tnil,tnil,tnil,tnil,tnil,tnil,tnil,tnil⟩
def kG (w:Bool) (a b:Sta):Sta:=if smay a=true/\smay b=true then smap w a b else snil
def serr (a b:Sta):Int:=if smay a=true/\smay b=true then 0 else 2
theorem tj_a {w t:Bool} {a b:Ty} (h:(a.k==0)=true):eN w t a b=tnil:=by unfold eN;rw[if_pos (.inl (by simpa using h))]
theorem tj_b {w t:Bool} {a b:Ty} (h:(b.k==0)=true):eN w t a b=tnil:=by unfold eN;rw[if_pos (.inr (by simpa using h))]
theorem apc {w t:Bool} {a b:Ty} (h0:(a.k==0)=false) (h1:(b.k==0)=false) (h2:(a.k==b.k)=false):eN w t a b=fV:=by
 unfold eN;rw[if_neg (by simp at h0 h1;simp[h0,h1]),if_pos (by simpa using h2)]
theorem tj_1 {w t:Bool} {a b:Ty} (h0:(a.k==0)=false) (h1:(b.k==0)=false) (h2:(a.k==b.k)=true) (h3:(a.k==1)=true):eN w t a b=ty a.k (if w=true then vwid a.s b.s else fT a.s b.s) 0 0:=by
 have e:a.k=1:=by simpa using h3
 unfold eN;rw[if_neg (by simp at h0 h1;simp[h0,h1]),if_neg (by simpa using h2),if_pos e,e]
theorem tj_p {w t:Bool} {a b:Ty} (h0:(a.k==0)=false) (h1:(b.k==0)=false) (h2:(a.k==b.k)=true) (h3:(a.k==1)=false):eN w t a b=⟨a.k,0,0,0,0,0,0,tlo t a b,thi t a b⟩:=by
 unfold eN;rw[if_neg (by simp at h0 h1;simp[h0,h1]),if_neg (by simpa using h2),if_neg (by simpa using h3)]
theorem ahx {t:Bool} {a b:Ty} (h:t=true) (h2:decide (min a.lo b.lo<a.lo)=true):tlo t a b = -1048576:=by unfold tlo;rw[if_pos ⟨h,thm3 h2⟩]
theorem ahy {t:Bool} {a b:Ty} (h2:decide (min a.lo b.lo<a.lo)=false):tlo t a b=min a.lo b.lo:=by unfold tlo;rw[if_neg (fun q=>thm2 h2 q.2)]
theorem apb {t:Bool} {a b:Ty} (h:t=false):tlo t a b=min a.lo b.lo:=by unfold tlo;rw[if_neg (fun q=>by rw[h] at q;cases q.1)]
theorem ahB {t:Bool} {a b:Ty} (h:t=true) (h2:decide (a.hi<max a.hi b.hi)=true):thi t a b=1048576:=by unfold thi;rw[if_pos ⟨h,thm3 h2⟩]
theorem ahC {t:Bool} {a b:Ty} (h2:decide (a.hi<max a.hi b.hi)=false):thi t a b=max a.hi b.hi:=by unfold thi;rw[if_neg (fun q=>thm2 h2 q.2)]
theorem ape {t:Bool} {a b:Ty} (h:t=false):thi t a b=max a.hi b.hi:=by unfold thi;rw[if_neg (fun q=>by rw[h] at q;cases q.1)]
theorem yO {w:Bool} {a b:Sta} (h:smay a=true) (h2:smay b=true):kG w a b=smap w a b/\serr a b=0:=⟨if_pos ⟨h,h2⟩,if_pos ⟨h,h2⟩⟩
theorem ue {w:Bool} {a b:Sta} (h:smay a=false\/smay b=false):kG w a b=snil/\serr a b=2:=by
 have:¬(smay a=true/\smay b=true):=by rcases h with h | h<;>simp[h]
 exact⟨if_neg this,if_neg this⟩
end Go.Proofs.YtfkhblmeioiciaaGreatDoor
