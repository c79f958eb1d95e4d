import Derived.Test.YtfkhblmeioiciaaGreatDoorSdW
import Derived.Test.YtfkhblmeioiciaaGreatDoorLiA
set_option maxRecDepth 100000
set_option maxHeartbeats 8000000
set_option linter.defProp false
set_option linter.unusedVariables false
set_option linter.unusedSimpArgs false
namespace Go.Proofs.YtfkhblmeioiciaaGreatDoor
open Go Go.RowKit
theorem ae (l:List (List Int)) (i:Int):aa [[gt l i 0,gt l i 1,gt l i 2,gt l i 3,b2i (gt l i 4==1),gt l i 5,gt l i 6,gt l i 7,gt l i 8]] 0=aa l i:=by
 show(⟨gt l i 0,gt l i 1,gt l i 2,gt l i 3,b2i (gt l i 4==1)==1,gt l i 5,gt l i 6,gt l i 7,gt l i 8⟩:Ins)=_
 rw[b2i_one];rfl
theorem aqK {v:Int} (h:inK .i8 v=true):IntKind.i64.wrap v=v:=by
 simp[inK,IntKind.min,IntKind.max,IntKind.signed,IntKind.bits] at h
 rw[aR]
 omega
def tptr (t:Ty):Bool:=(t.k==2)||(t.k==3)
def tsc (s:Sc):Ty:=ty 1 s 0 0
def far2 (n:Int):Bool:=decide (-1048576<=n)&&decide (n<=1048576)
def mlo (s:Sc) (b:Bool):Int:=if b=true then IntKind.i64.wrap (0-s.sh) else s.sl
def mhi (s:Sc) (b:Bool):Int:=if b=true then IntKind.i64.wrap (0-s.sl) else s.sh
def fL (t:Ty) (s:Sc) (b:Bool):Ty:={t with lo:=IntKind.i64.wrap (t.lo+mlo s b),hi:=IntKind.i64.wrap (t.hi+mhi s b)}
def ly (t:Ty) (s:Sc) (b:Bool):Ty:=
 if(decide (-1048576<=s.sl)&&decide (s.sh<=1048576))=true/\(far2 (fL t s b).lo&&far2 (fL t s b).hi)=true then fL t s b else fV
def aluA (x:Ins) (a b:Ty):Ty:=if x.op=11 then b else a
def aluB (x:Ins) (b:Ty):Ty:=if x.op=8 then tsc (vone 0) else b
def fS (op w:Int) (a b:Ty):Ty:=
 if(!tptr a &&!tptr b)=true then tsc (vdo op w a.s b.s)
 else if w=64/\tptr b=false/\(op=0\/op=1) then ly a b.s (op==1)
 else if w=64/\tptr a=false/\op=0 then ly b a.s false
 else if w=64 then fV
 else tsc (vbyt 4)
def valu (x:Ins) (a b:Ty):Ty:=if x.op=11/\x.w=64 then b else fS x.op x.w (aluA x a b) (aluB x b)
def aA (ctx:Int) (t:Ty) (off size:Int):Bool:=
 tptr t&&(bO size&&((far2 off&&(far2 t.lo&&far2 t.hi))&&(decide (t.lo<=t.hi)&&(decide (0<=t.lo+off)&&decide (t.hi+off+size<=if t.k=2 then ctx else 64)))))
theorem pT {t:Ty} (h:(t.k==2)=true):tptr t=true:=by unfold tptr;rw[h];rfl
theorem pU {t:Ty} (h:(t.k==3)=true):tptr t=true:=by unfold tptr;rw[h,Bool.or_true]
theorem pF {t:Ty} (h:(t.k==2)=false) (h2:(t.k==3)=false):tptr t=false:=by unfold tptr;rw[h,h2];rfl
section
variable {x:Ins} {a b:Ty} {op w:Int}
theorem va_m (h:(x.op==11)=true) (h2:(x.w==64)=true):valu x a b=b:=if_pos ⟨eqI h,eqI h2⟩
theorem va_o (h:(x.op==11)=true) (h2:(x.w==64)=false):valu x a b=fS x.op x.w b b:=by
 unfold valu aluA aluB
 rw[if_neg (fun e=>neI h2 e.2),if_pos (eqI h),if_neg (by have:=eqI h;omega)]
theorem va_n (h:(x.op==11)=false) (h2:(x.op==8)=true):valu x a b=fS x.op x.w a (tsc (vone 0)):=by
 unfold valu aluA aluB
 rw[if_neg (fun e=>neI h e.1),if_neg (neI h),if_pos (eqI h2)]
theorem va_e (h:(x.op==11)=false) (h2:(x.op==8)=false):valu x a b=fS x.op x.w a b:=by
 unfold valu aluA aluB
 rw[if_neg (fun e=>neI h e.1),if_neg (neI h),if_neg (neI h2)]
theorem of_1 (ha:tptr a=false) (hb:tptr b=false):fS op w a b=tsc (vdo op w a.s b.s):=if_pos (by rw[ha,hb];rfl)
theorem of_n (h:tptr a=true\/tptr b=true):¬(!tptr a &&!tptr b)=true:=by
 rcases h with h | h<;>rw[h]<;>simp
theorem of_2 (h:tptr a=true\/tptr b=true) (hw:(w==64)=false):fS op w a b=tsc (vbyt 4):=by
 unfold fS
 rw[if_neg (of_n h),if_neg (fun e=>neI hw e.1),if_neg (fun e=>neI hw e.1),if_neg (neI hw)]
theorem of_3 (ha:tptr a=true) (hb:tptr b=false) (hw:(w==64)=true) (h:op=0\/op=1):fS op w a b=ly a b.s (op==1):=by
 unfold fS
 rw[if_neg (of_n (.inl ha)),if_pos ⟨eqI hw,hb,h⟩]
theorem of_4 (ha:tptr a=false) (hb:tptr b=true) (hw:(w==64)=true) (h:(op==0)=true):fS op w a b=ly b a.s false:=by
 unfold fS
 rw[if_neg (of_n (.inr hb)),if_neg (fun e=>by rw[hb] at e;cases e.2.1),if_pos ⟨eqI hw,ha,eqI h⟩]
theorem of_5 (ha:tptr a=true) (hb:tptr b=true) (hw:(w==64)=true):fS op w a b=fV:=by
 unfold fS
 rw[if_neg (of_n (.inl ha)),if_neg (fun e=>by rw[hb] at e;cases e.2.1),if_neg (fun e=>by rw[ha] at e;cases e.2.1),if_pos (eqI hw)]
theorem of_6 (ha:tptr a=true) (hw:(w==64)=true) (h:(op==0)=false) (h1:(op==1)=false):fS op w a b=fV:=by
 unfold fS
 rw[if_neg (of_n (.inl ha)),if_neg (fun e=>e.2.2.elim (neI h) (neI h1)),if_neg (fun e=>neI h e.2.2),if_pos (eqI hw)]
theorem of_7 (hb:tptr b=true) (hw:(w==64)=true) (h:(op==0)=false):fS op w a b=fV:=by
 unfold fS
 rw[if_neg (of_n (.inr hb)),if_neg (fun e=>by rw[hb] at e;cases e.2.1),if_neg (fun e=>neI h e.2.2),if_pos (eqI hw)]
theorem of_8 (ha:tptr a=true) (hw:(w==64)=true) (h:(op==8)=true):fS op w a b=fV:=of_6 ha hw (by rw[eqI h];rfl) (by rw[eqI h];rfl)
theorem bS {t:Ty} {s:Sc} {b:Bool} (h:s.sl < -1048576\/1048576<s.sh\/(fL t s b).lo < -1048576\/1048576<(fL t s b).lo\/(fL t s b).hi < -1048576\/1048576<(fL t s b).hi):ly t s b=fV:=by
 unfold ly far2
 rw[if_neg]
 intro e
 simp only[thm0,bl] at e
 omega
theorem pG {t:Ty} {s:Sc} {b:Bool} (h0:¬s.sl < -1048576) (h1:¬1048576<s.sh) (h2:¬(fL t s b).lo < -1048576) (h3:¬1048576<(fL t s b).lo) (h4:¬(fL t s b).hi < -1048576) (h5:¬1048576<(fL t s b).hi):ly t s b=fL t s b:=by
 unfold ly far2
 rw[if_pos]
 simp only[thm0,bl]
 omega
end
def ff (cc:Int):Bool:=decide (0<=cc)&&decide (cc<10)
def gP (cc:Int):Int:=if cc=0 then 1 else if cc=1 then 0 else if cc=2 then 5 else if cc=3 then 4 else if cc=4 then 3 else if cc=5 then 2 else if cc=6 then 9 else if cc=7 then 8 else if cc=8 then 7 else if cc=9 then 6 else 0
def pcnt (n:Int):Int:=if n=1\/n=2\/n=4\/n=8 then 1 else if n=7 then 3 else 2
theorem cnt8 {n:Int} (h:1<=n/\n<=8):n=1\/n=2\/n=3\/n=4\/n=5\/n=6\/n=7\/n=8:=by omega
end Go.Proofs.YtfkhblmeioiciaaGreatDoor
