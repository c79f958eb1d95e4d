import Derived.Test.YtfkhblmeioiciaaGreatDoorVyF
import Derived.Test.YtfkhblmeioiciaaGreatDoorKnZ
set_option maxRecDepth 100000
set_option maxHeartbeats 8000000
set_option linter.defProp false
set_option linter.unusedVariables false
set_option linter.unusedSimpArgs false
namespace Go.Proofs.YtfkhblmeioiciaaGreatDoor
open Go Go.RowKit
def tyAt (T:List (List Int)) (i:Int) (o:Nat):Ty:=⟨gt T i o,gt T i (o+1),gt T i (o+2),gt T i (o+3),gt T i (o+4),gt T i (o+5),gt T i (o+6),gt T i (o+7),gt T i (o+8)⟩
def ay (T:List (List Int)) (i:Int):Sta:=⟨tyAt T i 1,tyAt T i 10,tyAt T i 19,tyAt T i 28,tyAt T i 37,tyAt T i 46,tyAt T i 55,tyAt T i 64,tyAt T i 73,tyAt T i 82,tyAt T i 91,tyAt T i 100,tyAt T i 109,tyAt T i 118,tyAt T i 127,tyAt T i 136,tyAt T i 145,tyAt T i 154,tyAt T i 163⟩
def alo (t:Ty) (x:Ins):Int:=opI .add .i64 t.lo x.off
def ahi (t:Ty) (x:Ins):Int:=opI .add .i64 t.hi x.off
def vld (x:Ins) (s:Sta) (t:Ty):Sta×Int:=
 if t.k=3 then(sreg (sreg s x.d (tsc (vbyt x.sz))) x.d (qA (sreg s x.d (tsc (vbyt x.sz))) (alo t x) (ahi t x) x.sz),qB (sreg s x.d (tsc (vbyt x.sz))) (alo t x) (ahi t x) x.sz)
 else(sreg s x.d (tsc (vbyt x.sz)),0)
def vsv (x:Ins) (s:Sta) (t:Ty):Sta×Int:=
 if t.k=3 then(jr s (alo t x) (ahi t x) x.sz (tnth s x.s),qp s (alo t x) (ahi t x) x.sz (tnth s x.s)) else(s,0)
def arx (s:Sta):Sta:={s with r0:=fV,r1:=tnil,r2:=tnil,r3:=tnil,r4:=tnil,r5:=tnil}
def vmid (p:Prog) (x:Ins) (s:Sta):Sta×Int:=
 if x.k=0 then(sreg s x.d (valu x (tnth s x.d) (dz x s)),0)
 else if x.k=1 then(if aA p.ctx (tnth s x.s) x.off x.sz=true then vld x s (tnth s x.s) else(s,111))
 else if x.k=2 then(if aA p.ctx (tnth s x.d) x.off x.sz=true then vsv x s (tnth s x.d) else(s,111))
 else if x.k=5 then(arx s,0)
 else(s,0)
def vway (s:Sta) (d:Int) (a b:Ty) (tells:Bool) (go cc:Int) (known:Bool):List (Int×Sta):=
 if(tells&&known)=true then(if vgok cc a.s b.s=true then[(go,sreg s d (tsc (vgiv cc a.s b.s)))] else[]) else[(go,s)]
def iG (x:Ins) (s:Sta) (b:Ty):Bool:=x.k==3&&((tnth s x.d).k==1&&b.k==1)
def ib (i:Int) (x:Ins) (s:Sta) (b:Ty):List (Int×Sta):=if x.k=4\/x.k=6 then[] else vway s x.d (tnth s x.d) b (iG x s b) (opI .add .i64 i 1) (gP x.op) (ff x.op)
def iF (i:Int) (x:Ins) (s:Sta) (b:Ty):List (Int×Sta):=if(itgt i x).2=true then vway s x.d (tnth s x.d) b (iG x s b) (itgt i x).1 x.op true else[]
def cz (p:Prog) (i:Int) (s:Sta):List (Int×Sta)×Int:=
 if lx s (vrd (aa p.l i)).toNat=true then([],110)
 else if(vmid p (aa p.l i) s).2=0 then(ib i (aa p.l i) (vmid p (aa p.l i) s).1 (dz (aa p.l i) s)++iF i (aa p.l i) (vmid p (aa p.l i) s).1 (dz (aa p.l i) s),0)
 else([],(vmid p (aa p.l i) s).2)
structure VR where
 w:Int
 T:List (List Int)
 g:List (List Int)
def vbit (w n:Int):Int:=opI .or .u64 w (opI .shl .u64 1 n)
def vjn (r:VR) (q:Int×Sta):Sta:=kG (decide (8<gt r.g q.1 0)) (ay r.T q.1) q.2
def vput (r:VR) (q:Int×Sta):VR:=
 if gt r.T q.1 0=1 then(if staL (vjn r q)=staL (ay r.T q.1) then r else⟨vbit r.w q.1,r.T.set q.1.toNat (1::staL (vjn r q)),st r.g q.1 0 (opI .add .i64 (gt r.g q.1 0) 1)⟩)
 else⟨vbit r.w q.1,r.T.set q.1.toNat (1::staL q.2),r.g⟩
abbrev VRes:=List (List Int)×List (List Int)×Int×Int
def aaU (p:Prog) (T:List (List Int)):VRes:=
 ((List.range p.l.length).map fun(k:Nat)=>[b2i (gt T k 0==1)],(List.range p.l.length).map fun(k:Nat)=>if gt T k 0=1 then staL (ay T k) else List.replicate 171 0,0,0)
def sW (r:VR):VR:=⟨opI .and .u64 r.w (opI .sub .u64 r.w 1),r.T,r.g⟩
def fi (p:Prog):Nat->Int->VR->VRes
 | 0,last,r=>if r.w=0 then aaU p r.T else([],[],last,112)
 | n+1,last,r=>if r.w=0 then aaU p r.T else
   if(cz p (tzI r.w) (ay r.T (tzI r.w))).2=0 then fi p n (tzI r.w) ((cz p (tzI r.w) (ay r.T (tzI r.w))).1.foldl vput (sW r))
   else([],[],tzI r.w,(cz p (tzI r.w) (ay r.T (tzI r.w))).2)
def vini:VR:=⟨1,(List.replicate 64 (List.replicate 172 0)).set 0 (1::staL ady),List.replicate 64 [0]⟩
def vrun (p:Prog):VRes:=if(bz p).2=0 then fi p 2000 0 vini else([],[],(bz p).1,(bz p).2)
theorem cS {p:Prog} {n:Nat} {last:Int} {r:VR} (h:r.w=0):fi p n last r=aaU p r.T:=by
 cases n<;>(unfold fi;rw[if_pos h])
theorem mA {p:Prog} {n:Nat} {last:Int} {r:VR} (h:r.w≠0) (he:(cz p (tzI r.w) (ay r.T (tzI r.w))).2≠0):fi p (n+1) last r=([],[],tzI r.w,(cz p (tzI r.w) (ay r.T (tzI r.w))).2):=by
 rw[fi,if_neg h,if_neg he]
theorem gR {p:Prog} {n:Nat} {last:Int} {r:VR} (h:r.w≠0) (he:(cz p (tzI r.w) (ay r.T (tzI r.w))).2=0):fi p (n+1) last r=fi p n (tzI r.w) ((cz p (tzI r.w) (ay r.T (tzI r.w))).1.foldl vput (sW r)):=by
 rw[fi,if_neg h,if_pos he]
theorem iH {p:Prog} {last:Int} {r:VR} (h:r.w≠0):fi p 0 last r=([],[],last,112):=by
 rw[fi,if_neg h]
theorem mq {T T':List (List Int)} {n:Nat} (h:T[n]? =T'[n]?) (c:Nat):gt T n c=gt T' n c:=by
 unfold gt
 rw[dT]
 have e:∀T:List (List Int),T.getD n []=(T[n]?).getD []:=fun T=>cN
 rw[e,e,h]
theorem wu {T T':List (List Int)} {n:Nat} (h:T[n]? =T'[n]?):ay T n=ay T' n:=by
 simp only[ay,tyAt,mq h]
theorem ac6 {w:Int} (h0:0<=w) (h1:w<=18446744073709551615) {i:Nat} (hi:i<64):tb w i=w.toNat.testBit i:=by
 obtain⟨n,rfl⟩:=Int.eq_ofNat_of_zero_le h0
 unfold tb
 rw[BitVec.ofInt_natCast,BitVec.getLsbD_ofNat,dT]
 simp[hi]
theorem agP {x:Nat} (h0:0<x) (h:x<2 ^ 64):Lib.ctz 64 x<64/\x.testBit (Lib.ctz 64 x)=true/\∀j,(x &&& (x-1)).testBit j=(x.testBit j &&!(j==Lib.ctz 64 x)):=by
 obtain⟨m,hm,hk⟩:=Lib.ctzFrom_spec 64 x h0 h
 have e:Lib.ctz 64 x=Lib.ctzFrom 64 x:=if_neg (by omega)
 rw[e]
 generalize Lib.ctzFrom 64 x=c at hm hk
 have hp:0<2 ^ c:=Nat.two_pow_pos c
 have h1:x=2 ^ c*(2*m+1)+0:=by omega
 have h2:x-1=2 ^ c*(2*m)+(2 ^ c-1):=by rw[hm,Nat.mul_succ];omega
 have t1:∀j,x.testBit j=if j<c then false else(2*m+1).testBit (j-c):=fun j=>by
  rw[h1,Nat.testBit_two_pow_mul_add _ hp]
  split
  ·simp
  ·rfl
 have t2:∀j,(x-1).testBit j=if j<c then(2 ^ c-1).testBit j else(2*m).testBit (j-c):=fun j=>by
  rw[h2,Nat.testBit_two_pow_mul_add _ (by omega)]
 have b0:(2*m+1).testBit 0=true:=by simp
 have b1:(2*m).testBit 0=false:=by simp
 have bs:∀d,(2*m+1).testBit (d+1)=m.testBit d/\(2*m).testBit (d+1)=m.testBit d:=fun d=>by
  rw[Nat.testBit_succ,Nat.testBit_succ,show(2*m+1) / 2=m by omega,show 2*m / 2=m by omega]
  exact⟨rfl,rfl⟩
 refine⟨hk,by rw[t1,if_neg (Nat.lt_irrefl c),Nat.sub_self,b0],fun j=> ?_⟩
 rw[Nat.testBit_and,t1,t2]
 by_cases hj:j<c
 ·rw[if_pos hj];simp
 ·rw[if_neg hj,if_neg hj]
  by_cases hjc:j=c
  ·rw[hjc,Nat.sub_self,b0,b1];simp
  ·obtain⟨d,hd⟩:∃d,j-c=d+1:=⟨j-c-1,by omega⟩
   rw[hd,(bs d).1,(bs d).2,show(j==c)=false by simp[hjc]]
   cases m.testBit d<;>rfl
theorem ajx {w:Int} (h0:0<w) (h1:w<=18446744073709551615):∃k:Nat,tzI w=(k:Int)/\k<64/\tb w k=true/\∀j,j<64->tb (opI .and .u64 w (opI .sub .u64 w 1)) j=(tb w j &&!(j==k)):=by
 obtain⟨n,rfl⟩:=Int.eq_ofNat_of_zero_le (Int.le_of_lt h0)
 obtain⟨c1,c2,c3⟩:=agP (x:=n) (by omega) (by omega)
 refine⟨Lib.ctz 64 n,rfl,c1,by rw[ac6 (by omega) h1 c1];exact c2,fun j hj=> ?_⟩
 have e:opI .sub .u64 (n:Int) 1=((n-1:Nat):Int):=by
  show IntKind.u64.wrap _=_
  rw[bg];omega
 rw[e]
 show tb (bits .and .u64 _ _) j=_
 rw[apf,ac6 (by omega) h1 hj,ac6 (by omega) (by omega) hj,<-Nat.testBit_and,dT,dT]
 exact c3 j
theorem alX {w:Int} {n:Nat} (hn:n<64) {j:Nat} (hj:j<64):tb (vbit w n) j=(tb w j||j==n):=by
 show tb (bits .or .u64 _ _) j=_
 rw[arD]
 have e:opI .shl .u64 1 (n:Int)=((2 ^ n:Nat):Int):=by
  show IntKind.u64.wrap (1*2 ^ min (n:Int).toNat 64)=_
  rw[bg,dT,Nat.min_eq_left (by omega),Int.one_mul]
  have h2:2 ^ n<2 ^ 64:=Nat.pow_lt_pow_right (by decide) hn
  have h3:((2 ^ n:Nat):Int)=(2:Int) ^ n:=Int.natCast_pow 2 n
  rw[<-h3]
  clear h3
  generalize (2:Nat) ^ n=z at h2 ⊢
  have h4:z<18446744073709551616:=h2
  omega
 rw[e]
 have h2:2 ^ n<2 ^ 64:=Nat.pow_lt_pow_right (by decide) hn
 rw[ac6 (Int.natCast_nonneg _) (by omega) hj,dT,Nat.testBit_two_pow]
 congr 1
 rw[aM,bl,dl]
 exact eq_comm
structure VI (p:Prog) (r:VR):Prop where
 w:0<=r.w/\r.w<=18446744073709551615
 T:r.T.length=64
 g:r.g.length=64
 on:∀k:Nat,k<64->tb r.w k=true->k<p.l.length/\gt r.T k 0=1
theorem aqS {T:List (List Int)} {n:Nat} {row:List Int} (k:Nat) (c:Nat) (hn:n<T.length):gt (T.set n row) (k:Int) c=if k=n then row.getD c 0 else gt T k c:=by
 unfold gt
 rw[dT]
 have e:∀T:List (List Int),T.getD k []=(T[k]?).getD []:=fun T=>cN
 rw[e,e]
 split
 ·rename_i e;rw[e,List.getElem?_set_self hn];rfl
 ·rename_i e;rw[List.getElem?_set_ne (fun e2=>e e2.symm)]
theorem aaK (op:BinOp) (a b:Int):0<=bits op .u64 a b/\bits op .u64 a b<=18446744073709551615:=by
 have:=aat op .u64 a b
 simp[inK,IntKind.min,IntKind.max,IntKind.signed,IntKind.bits] at this
 omega
theorem VI.lay {p:Prog} {r:VR} (h:VI p r) {n:Nat} (hn:n<p.l.length) (hl:p.l.length<=64) (row:List Int) (g:List (List Int)) (hg:g.length=64):VI p ⟨vbit r.w n,r.T.set n (1::row),g⟩ where
 w:=aaK .or _ _
 T:=by rw[List.length_set];exact h.T
 g:=hg
 on k hk hb:=by
  rw[alX (by omega) hk,bG,dl] at hb
  rw[aqS k 0 (by rw[h.T];omega)]
  split
  ·rename_i e;rw[e];exact⟨hn,rfl⟩
  ·rename_i e
   exact h.on k hk (hb.resolve_right e)
theorem VI.put {p:Prog} {r:VR} (h:VI p r) {q:Int×Sta} (h0:0<=q.1/\q.1<(p.l.length:Int)) (hl:p.l.length<=64):VI p (vput r q):=by
 obtain⟨n,hn⟩:=Int.eq_ofNat_of_zero_le h0.1
 unfold vput
 rw[hn,dT]
 split
 ·split
  ·exact h
  ·exact h.lay (by omega) hl _ _ (by rw[eP];exact h.g)
 ·exact h.lay (by omega) hl _ _ h.g
theorem VI.puts {p:Prog} (hl:p.l.length<=64):∀(l:List (Int×Sta)) {r:VR},VI p r->(∀q∈l,0<=q.1/\q.1<(p.l.length:Int))->VI p (l.foldl vput r)
 | [],r,h,_=>h
 | q::l,r,h,hq=>VI.puts hl l (h.put (hq q bA) hl) (fun x hx=>hq x (bZ _ hx))
theorem VI.next {p:Prog} {r:VR} (h:VI p r) (hw:r.w≠0):VI p (sW r)/\∃k:Nat,tzI r.w=(k:Int)/\k<64/\k<p.l.length/\gt r.T k 0=1:=by
 obtain⟨k,h1,h2,h3,h4⟩:=ajx (by have:=h.w;omega) h.w.2
 refine⟨⟨aaK .and _ _,h.T,h.g,fun j hj hb=> ?_⟩,k,h1,h2,h.on k h2 h3⟩
 have hb:tb (opI .and .u64 r.w (opI .sub .u64 r.w 1)) j=true:=hb
 rw[h4 j hj,thm0] at hb
 exact h.on j hj hb.1
theorem VI.ini {p:Prog} (hl:1<=p.l.length):VI p vini where
 w:=by decide
 T:=by unfold vini;simp
 g:=by unfold vini;simp
 on k hk hb:=by
  have h1:tb 1 k=true:=hb
  rw[ac6 (by decide) (by decide) hk] at h1
  have:k=0:=by
   cases k with
   | zero=>rfl
   | succ k=>rw[show Int.toNat 1=1 from rfl,Nat.testBit_succ] at h1;simp at h1
  subst this
  exact⟨hl,rfl⟩
theorem apa {p:Prog} {i:Nat} (hl:p.l.length<=maxLen) (h:(bz p).2=0) (hi:i<p.l.length) (ht:(itgt i (aa p.l i)).2=true):0<=(itgt i (aa p.l i)).1/\(itgt i (aa p.l i)).1<(p.l.length:Int):=by
 obtain⟨⟨h1,_,_⟩,h2,_⟩:=kn hl h
 have h3:=h2 i hi
 by_cases hc:(decide (0<=(itgt i (aa p.l i)).1)&&decide ((itgt i (aa p.l i)).1<=p.last))=true
 ·simp only[thm0,bl] at hc
  omega
 ·rw[aaM (pM hl h (Int.natCast_nonneg i) (by omega)) ht (by simpa using hc)] at h3
  cases h3
theorem aqt {p:Prog} {i:Nat} (hl:p.l.length<=maxLen) (h:(bz p).2=0) (hi:i<p.l.length) (h4:(aa p.l i).k≠4) (h6:(aa p.l i).k≠6):opI .add .i64 (i:Int) 1=((i+1:Nat):Int)/\i+1<p.l.length:=by
 obtain⟨⟨h1,h2,h3⟩,_,h5⟩:=kn hl h
 have hne:i+1≠p.l.length:=fun e=>by
  have:p.last=(i:Int):=by omega
  rw[this] at h5
  rcases h5 with h5 | h5
  ·exact h4 h5
  ·exact h6 h5
 refine⟨?_,by omega⟩
 show IntKind.i64.wrap _=_
 rw[aR];omega
theorem ab9 {s:Sta} {d go cc:Int} {a b:Ty} {t k:Bool} {q:Int×Sta} (h:q∈vway s d a b t go cc k):q.1=go:=by
 unfold vway at h
 split at h
 ·split at h
  ·rw[dk.1 h]
  ·cases h
 ·rw[dk.1 h]
theorem ab7 {p:Prog} {i:Nat} (hl:p.l.length<=maxLen) (h:(bz p).2=0) (hi:i<p.l.length) {s:Sta} {b:Ty}:∀q∈ib i (aa p.l i) s b,0<=q.1/\q.1<(p.l.length:Int):=by
 intro q hq
 unfold ib at hq
 split at hq
 ·cases hq
 ·rename_i hk
  obtain⟨e1,e2⟩:=aqt hl h hi (fun e=>hk (.inl e)) (fun e=>hk (.inr e))
  rw[ab9 hq,e1]
  omega
theorem alS {p:Prog} {i:Nat} (hl:p.l.length<=maxLen) (h:(bz p).2=0) (hi:i<p.l.length) {s:Sta} {b:Ty}:∀q∈iF i (aa p.l i) s b,0<=q.1/\q.1<(p.l.length:Int):=by
 intro q hq
 unfold iF at hq
 split at hq
 ·rename_i ht
  rw[ab9 hq]
  exact apa hl h hi ht
 ·cases hq
theorem ag4 {d:Int} (h0:0<=d) (h1:d<=10):∃n:Nat,bit1 d=(n:Int)/\n<2048:=by
 obtain⟨n,rfl⟩:=Int.eq_ofNat_of_zero_le h0
 have:n<=10:=by omega
 have key:∀n,n<11->∃m:Nat,m<2048/\bit1 (n:Nat)=(m:Int):=by decide +kernel
 obtain⟨m,h2,h3⟩:=key n (by omega)
 exact⟨m,h3,h2⟩
theorem aqn:∀d,d<11->∀s,s<11->∃m:Nat,m<2048/\opI .or .i64 (bit1 (d:Nat)) (bit1 (s:Nat))=(m:Int):=by decide +kernel
theorem aqo:∀d,d<11->∃m:Nat,m<2048/\opI .or .i64 (bit1 (d:Nat)) 0=(m:Int):=by decide +kernel
theorem aoV:∀a,a<6->∃m:Nat,m<2048/\opI .sub .i64 (opI .shl .i64 1 (opI .add .i64 (a:Nat) 1)) 2=(m:Int):=by decide +kernel
theorem ao6 {x:Ins} (h:imay x=true):∃R:Nat,vrd x=(R:Int)/\R<2048:=by
 have b:=pL h
 obtain⟨d,hd⟩:∃d:Nat,x.d=d:=⟨x.d.toNat,by omega⟩
 obtain⟨s,hs⟩:∃s:Nat,x.s=s:=⟨x.s.toNat,by omega⟩
 have two:∃m:Nat,opI .or .i64 (bit1 x.d) (if x.br=true then bit1 x.s else 0)=(m:Int)/\m<2048:=by
  rw[hd,hs]
  split
  ·obtain⟨m,h1,h2⟩:=aqn d (by omega) s (by omega);exact⟨m,h2,h1⟩
  ·obtain⟨m,h1,h2⟩:=aqo d (by omega);exact⟨m,h2,h1⟩
 unfold vrd
 rw[if_pos h]
 split
 ·split
  ·split
   ·exact ag4 b.2.2.1 b.2.2.2.1
   ·exact⟨0,rfl,by decide⟩
  ·exact two
 split
 ·exact ag4 b.2.2.1 b.2.2.2.1
 split
 ·rw[hd,hs]
  obtain⟨m,h1,h2⟩:=aqn d (by omega) s (by omega)
  exact⟨m,h2,h1⟩
 split
 ·exact two
 split
 ·have:=ko x.imm
  obtain⟨a,ha⟩:∃a:Nat,sF x.imm=a:=⟨(sF x.imm).toNat,by omega⟩
  rw[ha]
  obtain⟨m,h1,h2⟩:=aoV a (by omega)
  exact⟨m,h2,h1⟩
 split
 ·exact⟨1,rfl,by decide⟩
 ·exact⟨0,rfl,by decide⟩
end Go.Proofs.YtfkhblmeioiciaaGreatDoor
