import Derived.Test.YtfkhblmeioiciaaGreatDoorVk
set_option linter.unusedVariables false
set_option linter.unusedSimpArgs false
namespace Go.Proofs.YtfkhblmeioiciaaGreatDoor
open Go Go.RowKit
structure Ty where
 k:Int
 ul:Int
 uh:Int
 sl:Int
 sh:Int
 v:Int
 m:Int
 lo:Int
 hi:Int
def Ty.s (t:Ty):Sc:=⟨t.ul,t.uh,t.sl,t.sh,t.v,t.m⟩
def ty (k:Int) (s:Sc) (lo hi:Int):Ty:=⟨k,s.ul,s.uh,s.sl,s.sh,s.v,s.m,lo,hi⟩
theorem Ty.eta_s (t:Ty):(⟨t.ul,t.uh,t.sl,t.sh,t.v,t.m⟩:Sc)=t.s:=rfl
structure Sta where
 r0:Ty
 r1:Ty
 r2:Ty
 r3:Ty
 r4:Ty
 r5:Ty
 r6:Ty
 r7:Ty
 r8:Ty
 r9:Ty
 r10:Ty
 s0:Ty
 s1:Ty
 s2:Ty
 s3:Ty
 s4:Ty
 s5:Ty
 s6:Ty
 s7:Ty
def tnil:Ty:=⟨0,0,0,0,0,0,0,0,0⟩
def mV:Ty:=ty 1 vall 0 0
def cA (t:Ty):Bool:=(t.ul==0)&&((t.uh==0)&&((t.sl==0)&&((t.sh==0)&&((t.v==0)&&(t.m==0)))))
def tok (t:Ty):Bool:=
 if t.k=0 then cA t&&((t.lo==0)&&(t.hi==0))
 else if t.k=1 then vmay t.s&&((t.lo==0)&&(t.hi==0))
 else if t.k=2∨t.k=3 then cA t&&(decide (t.lo≤t.hi)&&(decide (-1048576≤t.lo)&&decide (t.hi≤1048576)))
 else false
def tset (t:Ty):Bool:=tok t &&!(t.k==0)
def smay (s:Sta):Bool:=
 tok s.r0&&(tok s.r1&&(tok s.r2&&(tok s.r3&&(tok s.r4&&(tok s.r5&&(tok s.r6&&(tok s.r7&&(tok s.r8&&(tok s.r9&&(tok s.r10&&
 (tset s.s0&&(tset s.s1&&(tset s.s2&&(tset s.s3&&(tset s.s4&&(tset s.s5&&(tset s.s6&&tset s.s7)))))))))))))))))
def ow (t:Ty):Int:=if t.k=2 then 2097152 else 3145728
def toff (t:Ty) (v:Int):Int:=IntKind.i64.wrap (IntKind.u64.wrap (v-ow t))
def ay (t:Ty) (v:Int):Bool:=
 tok t&&(if t.k=0 then true else if t.k=1 then vhas t.s v else(decide (t.lo≤toff t v)&&decide (toff t v≤t.hi)))
theorem qD {t:Ty} (h:tok t=true):t.k=0∨t.k=1∨t.k=2∨t.k=3:=by
 unfold tok at h
 split at h
 ·exact .inl ‹_›
 split at h
 ·exact .inr (.inl ‹_›)
 split at h
 ·rename_i h2; exact .inr (.inr h2)
 ·cases h
theorem adM {t:Ty} {v:Int} (h:tok t=false):ay t v=false:=by unfold ay; rw[h]; rfl
theorem agR {t:Ty} {v:Int} (h:tok t=true) (hk:t.k=0):ay t v=true:=by unfold ay; rw[h,if_pos hk]; rfl
theorem ou {t:Ty} {v:Int} (h:tok t=true) (hk:t.k=1):ay t v=vhas t.s v:=by unfold ay; rw[h,if_neg (by omega),if_pos hk]; rfl
theorem aad {t:Ty} {v:Int} (h:tok t=true) (hk:t.k=2):ay t v=(decide (t.lo≤IntKind.i64.wrap (IntKind.u64.wrap (v-2097152)))&&decide (IntKind.i64.wrap (IntKind.u64.wrap (v-2097152))≤t.hi)):=by
 unfold ay toff ow; rw[h,if_neg (by omega),if_neg (by omega),if_pos hk]; rfl
theorem aac {t:Ty} {v:Int} (h:tok t=true) (hk:t.k=3):ay t v=(decide (t.lo≤IntKind.i64.wrap (IntKind.u64.wrap (v-3145728)))&&decide (IntKind.i64.wrap (IntKind.u64.wrap (v-3145728))≤t.hi)):=by
 unfold ay toff ow; rw[h,if_neg (by omega),if_neg (by omega),if_neg (by omega)]; rfl
theorem acB {a b c:Int} (h:decide (b<a)=true):(decide (a≤b)&&decide (b≤c))=false:=by have:=of_decide_eq_true h; simp; omega
theorem wM {a b c:Int} (h:decide (b<a)=false):(decide (a≤b)&&decide (b≤c)) = !decide (c<b):=by
 have:=of_decide_eq_false h; rw[Bool.eq_iff_iff]; simp; omega
def ajS:Sta:=⟨tnil,⟨2,0,0,0,0,0,0,0,0⟩,tnil,tnil,tnil,tnil,tnil,tnil,tnil,tnil,⟨3,0,0,0,0,0,0,64,64⟩,
 ty 1 (vone 0) 0 0,ty 1 (vone 0) 0 0,ty 1 (vone 0) 0 0,ty 1 (vone 0) 0 0,ty 1 (vone 0) 0 0,ty 1 (vone 0) 0 0,ty 1 (vone 0) 0 0,ty 1 (vone 0) 0 0⟩
end Go.Proofs.YtfkhblmeioiciaaGreatDoor
