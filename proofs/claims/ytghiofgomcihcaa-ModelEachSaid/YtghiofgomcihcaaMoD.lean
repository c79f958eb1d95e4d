import Derived.Test.YtghiofgomcihcaaMoA
set_option linter.unusedSimpArgs false
set_option linter.unusedVariables false
set_option linter.unusedVariables false
set_option linter.unusedSimpArgs false
namespace Go.Proofs.Ytghiofgomcihcaa
open Go Go.RowKit
theorem wT {p:Prog} {m:Ms} (h:opI .andNot .i64 (ai (ae p.l m.pc)) m.st≠0):halt p m=3:=by
 unfold halt mC; rw[if_pos h]
theorem dD {p:Prog} {m:Ms} (h:opI .andNot .i64 (ai (ae p.l m.pc)) m.st=0) (hk:(ae p.l m.pc).k=0∨(ae p.l m.pc).k=3∨(ae p.l m.pc).k=4):halt p m=0:=by
 unfold halt mC
 rw[if_neg (by simp[h]),if_neg (by omega),if_neg (by omega),if_neg (by omega),if_neg (by omega)]
theorem zP {p:Prog} {m:Ms} (h:opI .andNot .i64 (ai (ae p.l m.pc)) m.st=0) (hk:(ae p.l m.pc).k=1):halt p m=if rdE m.mem (adr (m.r (ae p.l m.pc).s) (ae p.l m.pc).off) (IntKind.i64.wrap (ae p.l m.pc).sz)=0 then 0 else 3:=by
 unfold halt mC
 rw[if_neg (by simp[h]),if_pos hk]
theorem zO {p:Prog} {m:Ms} (h:opI .andNot .i64 (ai (ae p.l m.pc)) m.st=0) (hk:(ae p.l m.pc).k=2):halt p m=if stOk m (adr (m.r (ae p.l m.pc).d) (ae p.l m.pc).off) (IntKind.i64.wrap (ae p.l m.pc).sz)=true then 0 else 3:=by
 unfold halt mC
 rw[if_neg (by simp[h]),if_neg (by omega),if_pos hk]
theorem zQ {p:Prog} {m:Ms} (h:opI .andNot .i64 (ai (ae p.l m.pc)) m.st=0) (hk:(ae p.l m.pc).k=5):halt p m=if m.an.length=0 then 2 else 0:=by
 unfold halt mC
 rw[if_neg (by simp[h]),if_neg (by omega),if_neg (by omega),if_pos hk]
theorem wS {p:Prog} {m:Ms} (h:opI .andNot .i64 (ai (ae p.l m.pc)) m.st=0) (hk:(ae p.l m.pc).k=6):halt p m=1:=by
 unfold halt mC
 rw[if_neg (by simp[h]),if_neg (by omega),if_neg (by omega),if_neg (by omega),if_pos hk]
theorem pO {p:Prog} {m:Ms} (h:opI .andNot .i64 (ai (ae p.l m.pc)) m.st=0) (hk:(ae p.l m.pc).k=1) (hr:rdE m.mem (adr (m.r (ae p.l m.pc).s) (ae p.l m.pc).off) (IntKind.i64.wrap (ae p.l m.pc).sz)=0):halt p m=0:=by rw[zP h hk,if_pos hr]
theorem pN {p:Prog} {m:Ms} (h:opI .andNot .i64 (ai (ae p.l m.pc)) m.st=0) (hk:(ae p.l m.pc).k=1) (hr:rdE m.mem (adr (m.r (ae p.l m.pc).s) (ae p.l m.pc).off) (IntKind.i64.wrap (ae p.l m.pc).sz)≠0):halt p m=3:=by rw[zP h hk,if_neg hr]
theorem hZ {p:Prog} {m:Ms} (h:opI .andNot .i64 (ai (ae p.l m.pc)) m.st=0) (hk:(ae p.l m.pc).k=2) {a n:Int} (ha:adr (m.r (ae p.l m.pc).d) (ae p.l m.pc).off=a) (hn:IntKind.i64.wrap (ae p.l m.pc).sz=n) (hr:stOk m a n=true):halt p m=0:=by rw[zO h hk,ha,hn,if_pos hr]
theorem pM {p:Prog} {m:Ms} (h:opI .andNot .i64 (ai (ae p.l m.pc)) m.st=0) (hk:(ae p.l m.pc).k=2) {a n:Int} (ha:adr (m.r (ae p.l m.pc).d) (ae p.l m.pc).off=a) (hn:IntKind.i64.wrap (ae p.l m.pc).sz=n) (hr:stOk m a n=false):halt p m=3:=by rw[zO h hk,ha,hn,if_neg (by rw[hr]; decide)]
theorem pQ {p:Prog} {m:Ms} (h:opI .andNot .i64 (ai (ae p.l m.pc)) m.st=0) (hk:(ae p.l m.pc).k=5) (hr:m.an.length≠0):halt p m=0:=by rw[zQ h hk,if_neg hr]
theorem pP {p:Prog} {m:Ms} (h:opI .andNot .i64 (ai (ae p.l m.pc)) m.st=0) (hk:(ae p.l m.pc).k=5) (hr:m.an.length=0):halt p m=2:=by rw[zQ h hk,if_pos hr]
theorem go11 {m':Ms} {st pc d v:Int} {r0 r1 r2 r3 r4 r5 r6 r7 r8 r9 r10:Int} {an tr cx fm:List (List Int)} (h:m'=⟨[r0,r1,r2,r3,r4,r5,r6,r7,r8,r9,r10].set d.toNat v,st,pc,an,tr,cx,fm⟩) (h0:0≤d) (h1:d≤10):
  (⟨[if(d==0)=true then v else r0,if(d==1)=true then v else r1,if(d==2)=true then v else r2,if(d==3)=true then v else r3,if(d==4)=true then v else r4,if(d==5)=true then v else r5,if(d==6)=true then v else r6,if(d==7)=true then v else r7,if(d==8)=true then v else r8,if(d==9)=true then v else r9,if(d==10)=true then v else r10],st,pc,an,tr,cx,fm⟩:Ms)=m':=by
 rw[h,acW h0 h1]
theorem abk {p:Prog} {m:Ms} (hk:(ae p.l m.pc).k=0):nxt p m=⟨m.rg.set (ae p.l m.pc).d.toNat (dov (ae p.l m.pc).op (ae p.l m.pc).w (m.r (ae p.l m.pc).d) (m.sec (ae p.l m.pc))),opI .or .i64 m.st (bit1 (ae p.l m.pc).d),opI .add .i64 m.pc 1,m.an,m.tr,m.cx,m.fm⟩:=by
 unfold nxt iH pcX
 rw[if_pos hk,if_neg (by omega)]; rfl
theorem abj {p:Prog} {m:Ms} (hk:(ae p.l m.pc).k=1):nxt p m=⟨m.rg.set (ae p.l m.pc).d.toNat (rdV m.mem (adr (m.r (ae p.l m.pc).s) (ae p.l m.pc).off) (IntKind.i64.wrap (ae p.l m.pc).sz)),opI .or .i64 m.st (bit1 (ae p.l m.pc).d),opI .add .i64 m.pc 1,m.an,m.tr,m.cx,m.fm⟩:=by
 unfold nxt iH pcX
 rw[if_neg (by omega),if_pos hk,if_neg (by omega)]; rfl
theorem sX {p:Prog} {m:Ms} (hk:(ae p.l m.pc).k=2) {a n v:Int} (ha:adr (m.r (ae p.l m.pc).d) (ae p.l m.pc).off=a) (hn:IntKind.i64.wrap (ae p.l m.pc).sz=n) (hv:m.r (ae p.l m.pc).s=v):nxt p m=⟨m.rg,m.st,opI .add .i64 m.pc 1,m.an,m.tr,stC m a n v,stF m a n v⟩:=by
 subst ha hn hv
 unfold nxt iH pcX
 rw[if_neg (by omega),if_neg (by omega),if_pos hk,if_neg (by omega)]
theorem acu {p:Prog} {m:Ms} (hk:(ae p.l m.pc).k=3):nxt p m=⟨m.rg,m.st,if wP (ae p.l m.pc).op 64 (m.r (ae p.l m.pc).d) (m.sec (ae p.l m.pc))=true then(itgt m.pc (ae p.l m.pc)).1 else opI .add .i64 m.pc 1,m.an,m.tr,m.cx,m.fm⟩:=by
 unfold nxt iH pcX
 rw[if_neg (by omega),if_neg (by omega),if_neg (by omega),if_neg (by omega)]
 congr 1
 by_cases h:wP (ae p.l m.pc).op 64 (m.r (ae p.l m.pc).d) (m.sec (ae p.l m.pc))=true
 ·rw[if_pos (.inr ⟨hk,h⟩),if_pos h]
 ·rw[if_neg (by rintro (h1 | h1); omega; exact h h1.2),if_neg h]
theorem wv {p:Prog} {m:Ms} (hk:(ae p.l m.pc).k=3) (h:wP (ae p.l m.pc).op 64 (m.r (ae p.l m.pc).d) (m.sec (ae p.l m.pc))=true):nxt p m=⟨m.rg,m.st,(itgt m.pc (ae p.l m.pc)).1,m.an,m.tr,m.cx,m.fm⟩:=by rw[acu hk,if_pos h]
theorem ww {p:Prog} {m:Ms} (hk:(ae p.l m.pc).k=3) (h:wP (ae p.l m.pc).op 64 (m.r (ae p.l m.pc).d) (m.sec (ae p.l m.pc))=false):nxt p m=⟨m.rg,m.st,opI .add .i64 m.pc 1,m.an,m.tr,m.cx,m.fm⟩:=by rw[acu hk,if_neg (by rw[h]; decide)]
theorem abi {p:Prog} {m:Ms} (hk:(ae p.l m.pc).k=4):nxt p m=⟨m.rg,m.st,(itgt m.pc (ae p.l m.pc)).1,m.an,m.tr,m.cx,m.fm⟩:=by
 unfold nxt iH pcX
 rw[if_neg (by omega),if_neg (by omega),if_neg (by omega),if_neg (by omega),if_pos (.inl hk)]
theorem abh {p:Prog} {m:Ms} (hk:(ae p.l m.pc).k=5):nxt p m={m.call (ae p.l m.pc) with pc:=opI .add .i64 m.pc 1}:=by
 unfold nxt iH pcX
 rw[if_neg (by omega),if_neg (by omega),if_neg (by omega),if_pos hk,if_neg (by omega)]
theorem bQ {p:Prog} {cx an:List (List Int)} {fu left:Int} {m:Ms} (ho:bq p cx fu=0) (h:RunAt p cx an fu left m) (hf:fu≤10000) (hl:0<left) {k:Int} (hh:halt p m=k) (hk:k≠0):
  mrun p cx an fu=(⟨k,if k=1 then m.r 0 else 0,m.cx,m.tr,opI .sub .i64 left 1⟩,0):=by
 have e1:opI .sub .i64 left 1=left-1:=by have:=h.hi; exact wrI (by omega) (by omega)
 unfold mrun
 rw[if_neg (by simp[ho]),h.rn,mG hl (by rw[hh]; exact hk),e1,hh]
 rfl
theorem rC {p:Prog} {cx an:List (List Int)} {fu left:Int} {m:Ms} (ho:bq p cx fu=0) (h:RunAt p cx an fu left m) (hl:¬0<left):
  mrun p cx an fu=(⟨0,0,m.cx,m.tr,left⟩,0):=by
 have e0:left=0:=by have:=h.lo; omega
 subst e0
 unfold mrun
 rw[if_neg (by simp[ho]),h.rn,mF h.lo hl]
 rfl
theorem py {p:Prog} {cx:List (List Int)} {fu:Int} (h0:(aF p).2=0) (h1:(cx.length:Int)=p.ctx) (h2:0≤fu) (h3:fu≤10000):bq p cx fu=0:=by
 unfold bq
 rw[if_neg (by simp[h0]),if_neg (by omega)]
theorem ef {p:Prog} {cx an:List (List Int)} {fu e:Int} (h:bq p cx fu=e) (he:e≠0):mrun p cx an fu=(⟨0,0,[],[],0⟩,e):=by
 unfold mrun
 rw[if_pos (by rw[h]; exact he),h]; rfl
theorem dr {p:Prog} {cx:List (List Int)} {fu:Int} (h0:(aF p).2=0) (h1:(cx.length:Int)≠p.ctx∨fu<0∨10000<fu):bq p cx fu=2:=by
 unfold bq
 rw[if_neg (by simp[h0]),if_pos h1]
theorem mo {p:Prog} {cx:List (List Int)} {fu:Int} (h0:(aF p).2≠0):bq p cx fu=(aF p).2:=by
 unfold bq
 rw[if_pos h0]
theorem putS {b:Int} {l:List (List Int)} {a n:Int} (W:Win b l a n) (hl:l.length≤1048576) (v:Int) {k:Nat} (hk:k<n.toNat):
  st (putL l (a-b).toNat v k) (opI .add .i64 (a-b) (k:Int)) 0 (IntKind.u8.wrap (opI .shr .u64 v (opI .mul .i64 8 (k:Int))))=putL l (a-b).toNat v (k+1):=by
 rw[(W.byte hl hk).1]
 have:=W.lo
 rw[show a-b+(k:Int)=(((a-b).toNat+k:Nat):Int) by omega]
 rfl
theorem mulE {k:Nat} (hk:k<8):opI .mul .i64 8 (k:Int)=((8*k:Nat):Int):=by
 show IntKind.i64.wrap (8*(k:Int))=_
 rw[wrI (by omega) (by omega)]; omega
theorem addO {i m:Nat} (h:i<m) (hm:m≤maxLen):opI .add .i64 (i:Int) 1=((i+1:Nat):Int):=by
 have:maxLen≤9223372036854775807:=by decide
 rw[show opI .add .i64 (i:Int) 1=(i:Int)+1 from wrI (by omega) (by omega)]; omega
theorem kh {p:Prog} (h:(aF p).2=0):0≤p.ctx∧p.ctx≤256:=by
 unfold aF at h
 split at h
 ·cases h
 ·rename_i hc; have hc:(decide (0≤p.ctx)&&decide (p.ctx≤256))=true:=by simpa using hc
  simpa using hc
theorem aj {p:Prog} (hp:p.l.length≤maxLen) (hok:(aF p).2=0) {i:Int} (h0:0≤i) (h1:i<(p.l.length:Int)):imay (ae p.l i)=true:=by
 obtain⟨_,hall,_⟩:=cA hp hok
 obtain⟨n,rfl⟩:=Int.eq_ofNat_of_zero_le h0
 have hb:=hall n (by omega)
 unfold fB at hb
 split at hb
 ·cases hb
 ·rename_i h; simpa using h
theorem aK {l:List (List Int)} {pc:Int} (h:imay (ae l pc)=true):0≤gt l pc 5∧gt l pc 5≤10∧0≤gt l pc 6∧gt l pc 6≤10 ∧ -32768≤gt l pc 7∧gt l pc 7≤32767∧0≤gt l pc 0∧gt l pc 0≤6:=aZ h
theorem gG {x:Ins} (h:imay x=true) (hk:x.k=1∨x.k=2):aJ (IntKind.i64.wrap x.sz)=true:=by
 have hs:aJ x.sz=true:=by
  unfold imay aP at h
  rcases hk with hk | hk<;>simp[hk] at h
  ·exact h.2.1.1
  ·exact h.2.1
 have:=aI hs
 rw[wrI (by omega) (by omega)]
 exact hs
theorem zS {c f:List (List Int)} (hc:c.length≤256) (hf:f.length=64):(memB [] c f []).fit:=⟨rfl,rfl,rfl,rfl,rfl,rfl,rfl,rfl,by show 0≤_; omega,hc,hf,by show 0≤_; omega⟩
theorem ca {b a n:Int} (h:1≤n):inr b [] a n=false:=by
 unfold inr
 by_cases h1:b≤a
 ·rw[decide_eq_true h1,decide_eq_false (by show¬a-b+n≤0; omega)]; rfl
 ·rw[decide_eq_false h1]; rfl
end Go.Proofs.Ytghiofgomcihcaa
