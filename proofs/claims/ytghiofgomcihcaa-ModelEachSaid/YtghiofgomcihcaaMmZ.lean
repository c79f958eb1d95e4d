import Derived.Test.YtghiofgomcihcaaLiA
set_option linter.unusedSimpArgs false
set_option linter.unusedVariables false
set_option linter.unusedVariables false
set_option linter.unusedSimpArgs false
namespace Go.Proofs.Ytghiofgomcihcaa
open Go Go.RowKit
structure Mem where
 b0:Int
 l0:List (List Int)
 w0:Bool
 b1:Int
 l1:List (List Int)
 w1:Bool
 b2:Int
 l2:List (List Int)
 w2:Bool
 b3:Int
 l3:List (List Int)
 w3:Bool
structure Act where
 dw:Int
 at_:Int
 n:Int
 v:Int
structure Mem.fit (m:Mem):Prop where
 b0:m.b0=1048576
 b1:m.b1=2097152
 b2:m.b2=3145728
 b3:m.b3=4194304
 w0:m.w0=false
 w1:m.w1=true
 w2:m.w2=true
 w3:m.w3=true
 l0:m.l0.length≤16384
 l1:m.l1.length≤256
 l2:m.l2.length=64
 l3:m.l3.length≤264
def inr (b:Int) (l:List (List Int)) (a n:Int):Bool:=decide (b≤a)&&decide (a-b+n≤(l.length:Int))
def numL:List (List Int)→Int
 | []=>0
 | x::r=>x.getD 0 0+256*numL r
def winL (b:Int) (l:List (List Int)) (a n:Int):List (List Int):=(l.drop (a-b).toNat).take n.toNat
def Mem.reg (m:Mem) (a n:Int):Int:=
 if inr m.b0 m.l0 a n then 1 else if inr m.b1 m.l1 a n then 2 else if inr m.b2 m.l2 a n then 3 else if inr m.b3 m.l3 a n then 4 else 0
def rdE (m:Mem) (a n:Int):Int:=if aJ n then(if m.reg a n=0 then 20 else 0) else 2
def rdV (m:Mem) (a n:Int):Int:=if aJ n then
 (if inr m.b0 m.l0 a n then numL (winL m.b0 m.l0 a n) else if inr m.b1 m.l1 a n then numL (winL m.b1 m.l1 a n) else if inr m.b2 m.l2 a n then numL (winL m.b2 m.l2 a n) else if inr m.b3 m.l3 a n then numL (winL m.b3 m.l3 a n) else 0) else 0
theorem kf {a:Int} (h:inK .u64 a=true):0≤a∧a≤18446744073709551615:=by
 have:=aO.1 h
 simpa[IntKind.min,IntKind.max,IntKind.signed,IntKind.bits] using this
theorem ac4 {v:Int} (h:inK .u8 v=true):0≤v∧v≤255:=by
 have:=aO.1 h
 simpa[IntKind.min,IntKind.max,IntKind.signed,IntKind.bits] using this
theorem wrU {a:Int} (h0:0≤a) (h1:a≤18446744073709551615):IntKind.u64.wrap a=a:=jg (aO.2 (by simp[IntKind.min,IntKind.max,IntKind.signed,IntKind.bits]; omega))
theorem wrI {a:Int} (h0 : -9223372036854775808≤a) (h1:a≤9223372036854775807):IntKind.i64.wrap a=a:=jg (aO.2 (by simp[IntKind.min,IntKind.max,IntKind.signed,IntKind.bits]; omega))
theorem aI {n:Int} (h:aJ n=true):n=1∨n=2∨n=4∨n=8:=by
 simpa[aJ] using h
theorem xv {l:List (List Int)} (h:RowsIn [some .u8] l) {r:List Int} (hr:r∈l):∃x,r=[x]∧0≤x∧x≤255:=by
 have h1:=h.row r hr
 have h3:=bT h1
 match r,h1,h3 with
 | [x],h1,_=>
   have h2:=ac4 (v:=x) (by simpa[ar,inCE] using h1)
   exact⟨x,rfl,h2.1,h2.2⟩
theorem abT {l:List (List Int)} (h:RowsIn [some .u8] l) (i:Int):0≤gt l i 0∧gt l i 0≤255:=by
 unfold gt
 rw[List.getD_eq_getElem?_getD (l:=l)]
 cases hq:l[i.toNat]? with
 | none=>exact⟨Int.le_refl _,by decide⟩
 | some r=>
   obtain⟨x,rfl,h1,h2⟩:=xv h (List.mem_of_getElem? hq)
   exact⟨h1,h2⟩
theorem wx:∀{l:List (List Int)},RowsIn [some .u8] l→0≤numL l∧numL l<256 ^ l.length
 | [],_=>⟨Int.le_refl _,by decide⟩
 | r::l,h=>by
   obtain⟨x,rfl,h1,h2⟩:=xv h List.mem_cons_self
   have ih:=wx (l:=l) ⟨fun r hr=>h.row r (List.mem_cons_of_mem _ hr),by have:=h.len; simp at this; omega⟩
   rw[List.length_cons,Int.pow_succ]
   simp only[numL,List.getD_cons_zero]
   omega
theorem ack {v b:Int} (h0:0≤v) (h1:v<72057594037927936) (h2:0≤b) (h3:b≤255):opI .or .u64 (opI .shl .u64 v 8) b=b+256*v:=by
 have e1:opI .shl .u64 v 8=v*256:=by
  show IntKind.u64.wrap (v*2 ^ min (8:Int).toNat 64)=_
  rw[show min (8:Int).toNat 64=8 from rfl]
  exact wrU (by omega) (by omega)
 rw[e1]
 obtain⟨n,rfl⟩:=Int.eq_ofNat_of_zero_le h0
 obtain⟨m,rfl⟩:=Int.eq_ofNat_of_zero_le h2
 have h:256*n+m=256*n ||| m:=Nat.two_pow_add_eq_or_of_lt (i:=8) (by omega) n
 show bits .or .u64 _ _=_
 rw[show((n:Int)*256)=((256*n:Nat):Int) from by omega,u64_or_nat _ _ (by omega) (by omega),←h]
 omega
theorem vR {ks:List CE} {l:List (List Int)} (h:RowsIn ks l) (n:Nat):RowsIn ks (l.take n):=⟨fun r hr=>h.row r (List.mem_of_mem_take hr),by have:=h.len; rw[List.length_take]; omega⟩
theorem nX {ks:List CE} {l:List (List Int)} (h:RowsIn ks l) (n:Nat):RowsIn ks (l.drop n):=⟨fun r hr=>h.row r (List.mem_of_mem_drop hr),by have:=h.len; rw[List.length_drop]; omega⟩
structure Win (b:Int) (l:List (List Int)) (a n:Int):Prop where
 sub:opI .sub .u64 a b=a-b
 cv:IntKind.i64.wrap (a-b)=a-b
 add:opI .add .i64 (a-b) n=a-b+n
 win:(l.take (a-b+n).toNat).drop (a-b).toNat=winL b l a n
 len:(winL b l a n).length=n.toNat
 lo:0≤a-b
 hi:a-b+n≤(l.length:Int)
 n1:1≤n
 n8:n≤8
theorem Win.of {b:Int} {l:List (List Int)} {a n:Int} (h:inr b l a n=true) (ha:inK .u64 a=true) (hb:0≤b) (hl:l.length≤1048576) (hn:1≤n) (hn8:n≤8):Win b l a n:=by
 simp only[inr,Bool.and_eq_true,decide_eq_true_eq] at h
 have h2:=kf ha
 have hlen:(winL b l a n).length=n.toNat:=by unfold winL; rw[List.length_take,List.length_drop]; omega
 refine⟨wrU (by omega) (by omega),wrI (by omega) (by omega),wrI (by omega) (by omega),?_,hlen,by omega,h.2,hn,hn8⟩
 unfold winL
 rw[List.drop_take,show(a-b+n).toNat-(a-b).toNat=n.toNat by omega]
theorem dC {b:Int} {l:List (List Int)} {a n:Int} (h:decide (a<b)=true):true = !inr b l a n:=by
 have:=of_decide_eq_true h
 simp only[inr]
 rw[decide_eq_false (by omega:¬b≤a)]
 rfl
theorem cb {b:Int} {l:List (List Int)} {a n:Int} (ha:inK .u64 a=true) (hb:0≤b) (hn:1≤n) (h1:decide (a<b)=false) (hl:l.length≤1048576) (h:decide (IntKind.u64.wrap (l.length:Int)<opI .sub .u64 a b)=true):true = !inr b l a n:=by
 have h1:=of_decide_eq_false h1
 have ha:=kf ha
 have h2:=of_decide_eq_true h
 rw[wrU (by omega) (by omega),show opI .sub .u64 a b=a-b from wrU (by omega) (by omega)] at h2
 simp only[inr]
 rw[decide_eq_false (by omega:¬a-b+n≤(l.length:Int)),Bool.and_false]
 rfl
theorem bw {b:Int} {l:List (List Int)} {a n:Int} (ha:inK .u64 a=true) (hb:0≤b) (hn:1≤n) (hn8:n≤8) (h1:decide (a<b)=false) (hl:l.length≤1048576) (h:decide (IntKind.u64.wrap (l.length:Int)<opI .sub .u64 a b)=false):decide (opI .sub .u64 (IntKind.u64.wrap (l.length:Int)) (opI .sub .u64 a b)<n) = !inr b l a n:=by
 have h1:=of_decide_eq_false h1
 have ha:=kf ha
 have h2:=of_decide_eq_false h
 rw[wrU (a:=(l.length:Int)) (by omega) (by omega),show opI .sub .u64 a b=a-b from wrU (by omega) (by omega)] at h2 ⊢
 rw[show opI .sub .u64 (l.length:Int) (a-b)=l.length-(a-b) from wrU (by omega) (by omega)]
 simp only[inr]
 rw[decide_eq_true (by omega:b≤a),Bool.true_and]
 by_cases h3:a-b+n≤(l.length:Int)
 ·rw[decide_eq_true h3,decide_eq_false (by omega)]; rfl
 ·rw[decide_eq_false h3,decide_eq_true (by omega)]; rfl
theorem Win.byte {b:Int} {l:List (List Int)} {a n:Int} (h:Win b l a n) (hl:l.length≤1048576) {k:Nat} (hk:k<n.toNat):opI .add .i64 (a-b) (k:Int)=a-b+k∧(winL b l a n)[k]? =l[(a-b+k).toNat]? :=by
 obtain⟨_,_,_,_,_,h6,h7,h8,h9⟩:=h
 refine⟨wrI (by omega) (by omega),?_⟩
 unfold winL
 rw[List.getElem?_take_of_lt hk,List.getElem?_drop]
 congr 1
 omega
theorem Win.step {b:Int} {l:List (List Int)} {a n:Int} (h:Win b l a n) (hl:l.length≤1048576) (hr:RowsIn [some .u8] l) {k:Nat} (hk:k<n.toNat):
  opI .or .u64 (opI .shl .u64 (numL ((winL b l a n).drop (k+1))) 8) (IntKind.u64.wrap (gt l (opI .add .i64 (a-b) (k:Int)) 0))=numL ((winL b l a n).drop k):=by
 obtain⟨h1,h2⟩:=h.byte hl hk
 have hw:RowsIn [some .u8] (winL b l a n):=vR (nX hr _) _
 have hkl:k<(winL b l a n).length:=by rw[h.len]; exact hk
 rw[h1]
 have hg:gt l (a-b+k) 0=((winL b l a n)[k]).getD 0 0:=by
  unfold gt
  rw[List.getD_eq_getElem?_getD (l:=l),←h2,List.getElem?_eq_getElem hkl]
  rfl
 have hb:=abT hr (a-b+k)
 have hd:=wx (nX hw (k+1))
 have hlen:((winL b l a n).drop (k+1)).length≤7:=by rw[List.length_drop,h.len]; have:=h.n8; omega
 have hp:(256:Int) ^ ((winL b l a n).drop (k+1)).length≤256 ^ 7:=by
  have e:∀k:Nat,(256:Int) ^ k=((256 ^ k:Nat):Int):=fun k=>by rw[Int.natCast_pow]; rfl
  rw[e,e]
  exact Int.ofNat_le.2 (Nat.pow_le_pow_right (by decide) hlen)
 rw[wrU hb.1 (by omega),ack hd.1 (by omega) hb.1 hb.2,List.drop_eq_getElem_cons hkl,numL,←hg]
theorem sub1 {x:Int} (h0 : -1000000000000≤x) (h1:x≤1000000000000):opI .sub .i64 x 1=x-1:=wrI (by omega) (by omega)
theorem Win.init {b:Int} {l:List (List Int)} {a n:Int} (h:Win b l a n):[Dt.z 0,Dt.z (opI .sub .i64 (((l.take (opI .add .i64 (IntKind.i64.wrap (opI .sub .u64 a b)) n).toNat).drop (opI .sub .u64 a b).toNat).length:Int) 1)]=[Dt.z (numL ((winL b l a n).drop n.toNat)),Dt.z ((n.toNat:Int)-1)]:=by
 have h8:=h.n8
 have h1:=h.n1
 rw[h.sub,h.cv,h.add,h.win,h.len,List.drop_eq_nil_of_le (by rw[h.len]; exact Nat.le_refl _),sub1 (by omega) (by omega)]
 rfl
theorem Win.next {b:Int} {l:List (List Int)} {a n:Int} (h:Win b l a n) (hl:l.length≤1048576) (hr:RowsIn [some .u8] l) {k:Nat} (hk:k+1≤n.toNat):
  (∃j:Nat,[Dt.z (opI .or .u64 (opI .shl .u64 (numL ((winL b l a n).drop (k+1))) 8) (IntKind.u64.wrap (gt l (opI .add .i64 (a-b) (((k+1:Nat):Int)-1)) 0))),Dt.z (opI .sub .i64 (((k+1:Nat):Int)-1) 1)]=[Dt.z (numL ((winL b l a n).drop j)),Dt.z ((j:Int)-1)]∧j≤n.toNat)∧(opI .sub .i64 (((k+1:Nat):Int)-1) 1+1).toNat<(((k+1:Nat):Int)-1+1).toNat:=by
 have h8:=h.n8
 have e:((k+1:Nat):Int)-1=(k:Int):=by omega
 rw[e,h.step hl hr (by omega),sub1 (by omega) (by omega)]
 exact⟨⟨k,rfl,by omega⟩,by omega⟩
end Go.Proofs.Ytghiofgomcihcaa
set_option linter.unusedSimpArgs false
set_option linter.unusedVariables false
set_option linter.unusedVariables false
set_option linter.unusedSimpArgs false
namespace Go.Proofs.Ytghiofgomcihcaa
open Go Go.RowKit
def Mem.Row (m:Mem) (b:Int) (l:List (List Int)):Prop:=(b=m.b0∧l=m.l0)∨(b=m.b1∧l=m.l1)∨(b=m.b2∧l=m.l2)∨(b=m.b3∧l=m.l3)
structure Mem.Lim (m:Mem):Prop where
 b0:m.b0=1048576
 b1:m.b1=2097152
 b2:m.b2=3145728
 b3:m.b3=4194304
 l0:m.l0.length≤16384
 l1:m.l1.length≤256
 l2:m.l2.length=64
 l3:m.l3.length≤264
end Go.Proofs.Ytghiofgomcihcaa
set_option linter.unusedSimpArgs false
set_option linter.unusedVariables false
set_option linter.unusedVariables false
set_option linter.unusedSimpArgs false
namespace Go.Proofs.Ytghiofgomcihcaa
open Go Go.RowKit
end Go.Proofs.Ytghiofgomcihcaa
set_option linter.unusedSimpArgs false
set_option linter.unusedVariables false
set_option linter.unusedVariables false
set_option linter.unusedSimpArgs false
namespace Go.Proofs.Ytghiofgomcihcaa
open Go Go.RowKit
def memB (y c f s:List (List Int)):Mem:=⟨1048576,y,false,2097152,c,true,3145728,f,true,4194304,s,true⟩
def ada (v:Int) (k:Nat):Int:=IntKind.u8.wrap (opI .shr .u64 v (opI .mul .i64 8 (k:Int)))
def putL (l:List (List Int)) (o:Nat) (v:Int):Nat→List (List Int)
 | 0=>l
 | k+1=>st (putL l o v k) ((o+k:Nat):Int) 0 (ada v k)
theorem au (l:List (List Int)) (o:Nat) (v:Int):∀k,(putL l o v k).length=l.length
 | 0=>rfl
 | k+1=>by rw[putL,gD,au l o v k]
structure LimB (X:Nat) (y c f s:List (List Int)):Prop where
 x:X≤256
 y:y.length≤16384
 c:c.length=X
 f:f.length=64
 s:s.length=264
theorem LimB.fit {X:Nat} {y c f s:List (List Int)} (h:LimB X y c f s):(memB y c f s).fit:=⟨rfl,rfl,rfl,rfl,rfl,rfl,rfl,rfl,h.y,by have:=h.c; have:=h.x; show c.length≤256; omega,h.f,by have:=h.s; show s.length≤264; omega⟩
end Go.Proofs.Ytghiofgomcihcaa
