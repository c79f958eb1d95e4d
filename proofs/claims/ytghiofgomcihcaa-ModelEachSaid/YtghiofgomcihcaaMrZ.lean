import Derived.Test.YtghiofgomcihcaaMoD
import Derived.Test.YtghiofgomcihcaaMoZ
import Derived.Test.YtghiofgomcihcaaLiD
set_option linter.unusedSimpArgs false
set_option linter.unusedVariables false
set_option linter.unusedVariables false
set_option linter.unusedSimpArgs false
namespace Go.Proofs.Ytghiofgomcihcaa
open Go Go.RowKit
def wiK (b:Int) (l:List (List Int)) (a:Int):Int:=if b≤a∧a-b<(l.length:Int) then a-b else 0
theorem acS {b:Int} {l:List (List Int)} {a n:Int} (h:decide (a<b)=true):(0:Int)=wiK b l a∧false=inr b l a n:=by
 have:=of_decide_eq_true h
 unfold wiK inr
 rw[if_neg (by omega),decide_eq_false (by omega:¬b≤a)]
 exact⟨rfl,rfl⟩
theorem zo {b a:Int} (ha:inK .u64 a=true) (hb:0≤b) (h:decide (a<b)=false):opI .sub .u64 a b=a-b∧0≤a-b∧a≤18446744073709551615:=by
 have:=kf ha
 have:=of_decide_eq_false h
 exact⟨wrU (by omega) (by omega),by omega,by omega⟩
theorem abY {b:Int} {l:List (List Int)} {a n:Int} (ha:inK .u64 a=true) (hb:0≤b) (hl:l.length≤1048576) (hn:1≤n) (h0:decide (a<b)=false) (h1:decide (opI .sub .u64 a b<IntKind.u64.wrap (l.length:Int))=false):(0:Int)=wiK b l a∧false=inr b l a n:=by
 obtain⟨e1,e2,e3⟩:=zo ha hb h0
 have:=of_decide_eq_false h1
 rw[e1,wrU (by omega) (by omega)] at this
 unfold wiK inr
 rw[if_neg (by omega),decide_eq_false (by omega:¬a-b+n≤(l.length:Int)),Bool.and_false]
 exact⟨rfl,rfl⟩
theorem acT {b:Int} {l:List (List Int)} {a n:Int} (ha:inK .u64 a=true) (hb:0≤b) (hl:l.length≤1048576) (hn:1≤n) (hn8:n≤8) (h0:decide (a<b)=false) (h1:decide (opI .sub .u64 a b<IntKind.u64.wrap (l.length:Int))=true):IntKind.i64.wrap (opI .sub .u64 a b)=wiK b l a∧(!decide (opI .sub .i64 (l.length:Int) (IntKind.i64.wrap (opI .sub .u64 a b))<n))=inr b l a n:=by
 obtain⟨e1,e2,e3⟩:=zo ha hb h0
 have h1:=of_decide_eq_true h1
 have h0:=of_decide_eq_false h0
 rw[e1,wrU (by omega) (by omega)] at h1
 rw[e1,wrI (by omega) (by omega),show opI .sub .i64 (l.length:Int) (a-b)=l.length-(a-b) from wrI (by omega) (by omega)]
 unfold wiK inr
 rw[if_pos ⟨by omega,h1⟩,decide_eq_true (by omega:b≤a),Bool.true_and]
 refine⟨rfl,?_⟩
 by_cases h3:a-b+n≤(l.length:Int)
 ·rw[decide_eq_true h3,decide_eq_false (by omega)]; rfl
 ·rw[decide_eq_false h3,decide_eq_true (by omega)]; rfl
theorem kH {b:Int} {l:List (List Int)} {a n:Int} (h:inr b l a n=true) (hn:1≤n):wiK b l a=a-b:=by
 simp only[inr,Bool.and_eq_true,decide_eq_true_eq] at h
 unfold wiK
 rw[if_pos ⟨h.1,by omega⟩]
end Go.Proofs.Ytghiofgomcihcaa
set_option linter.unusedSimpArgs false
set_option linter.unusedVariables false
set_option linter.unusedVariables false
set_option linter.unusedSimpArgs false
namespace Go.Proofs.Ytghiofgomcihcaa
open Go Go.RowKit
def fmI (f:List (List Int)):List Int:=f.map fun r=>r.getD 0 0
def fH (m:Ms):List Int:=m.rg++m.st::fmI m.fm
def eN (p:Prog):Nat→Ms→List (List Int)
 | 0,_=>[]
 | f+1,m=>fH m::(if halt p m=0 then eN p f (nxt p m) else[])
theorem qt {p:Prog} {left:Int} {m:Ms} (h:0<left) (hh:halt p m=0):eN p left.toNat m=fH m::eN p (left-1).toNat (nxt p m):=by
 rw[show left.toNat=(left-1).toNat+1 by omega]
 show fH m::(if _ then _ else _)=_
 rw[if_pos hh]
theorem uS {p:Prog} {left:Int} {m:Ms} (h:0<left) (hh:halt p m≠0):eN p left.toNat m=[fH m]:=by
 rw[show left.toNat=(left-1).toNat+1 by omega]
 show fH m::(if _ then _ else _)=_
 rw[if_neg hh]
theorem uR {p:Prog} {left:Int} {m:Ms} (h:¬0<left):eN p left.toNat m=[]:=by
 rw[show left.toNat=0 by omega]; rfl
theorem nB {p:Prog}:∀(f:Nat) (m:Ms),(eN p f m).length=(aW p f m).length
 | 0,m=>rfl
 | f+1,m=>by
   unfold eN aW
   split
   ·rw[List.length_cons,List.length_cons,nB f]
   ·rfl
def ir (L:List Int):List (List Int):=L.map fun i=>[i]
def bJ (p:Prog) (cx an:List (List Int)) (fu:Int):List (List Int)×List (List Int):=
 if bq p cx fu≠0 then([],[]) else(ir (aW p fu.toNat (ms0 cx an)),eN p fu.toNat (ms0 cx an))
theorem cy {p:Prog} {cx an:List (List Int)} {fu e:Int} (h:bq p cx fu=e) (he:e≠0):bJ p cx an fu=([],[]):=by
 unfold bJ
 rw[if_pos (by rw[h]; exact he)]
def frI (ρ:Env) (v:Nat):List Int:=[ρ.i v,ρ.i (v+1),ρ.i (v+2),ρ.i (v+3),ρ.i (v+4),ρ.i (v+5),ρ.i (v+6),ρ.i (v+7),ρ.i (v+8),ρ.i (v+9),ρ.i (v+10),ρ.i (v+11),ρ.i (v+12),ρ.i (v+13),ρ.i (v+14),ρ.i (v+15),ρ.i (v+16),ρ.i (v+17),ρ.i (v+18),ρ.i (v+19),ρ.i (v+20),ρ.i (v+21),ρ.i (v+22),ρ.i (v+23),ρ.i (v+24),ρ.i (v+25),ρ.i (v+26),ρ.i (v+27),ρ.i (v+28),ρ.i (v+29),ρ.i (v+30),ρ.i (v+31),ρ.i (v+32),ρ.i (v+33),ρ.i (v+34),ρ.i (v+35),ρ.i (v+36),ρ.i (v+37),ρ.i (v+38),ρ.i (v+39),ρ.i (v+40),ρ.i (v+41),ρ.i (v+42),ρ.i (v+43),ρ.i (v+44),ρ.i (v+45),ρ.i (v+46),ρ.i (v+47),ρ.i (v+48),ρ.i (v+49),ρ.i (v+50),ρ.i (v+51),ρ.i (v+52),ρ.i (v+53),ρ.i (v+54),ρ.i (v+55),ρ.i (v+56),ρ.i (v+57),ρ.i (v+58),ρ.i (v+59),ρ.i (v+60),ρ.i (v+61),ρ.i (v+62),ρ.i (v+63)]
def frD (ds:List Dt):List Int:=[dI ds 13,dI ds 14,dI ds 15,dI ds 16,dI ds 17,dI ds 18,dI ds 19,dI ds 20,dI ds 21,dI ds 22,dI ds 23,dI ds 24,dI ds 25,dI ds 26,dI ds 27,dI ds 28,dI ds 29,dI ds 30,dI ds 31,dI ds 32,dI ds 33,dI ds 34,dI ds 35,dI ds 36,dI ds 37,dI ds 38,dI ds 39,dI ds 40,dI ds 41,dI ds 42,dI ds 43,dI ds 44,dI ds 45,dI ds 46,dI ds 47,dI ds 48,dI ds 49,dI ds 50,dI ds 51,dI ds 52,dI ds 53,dI ds 54,dI ds 55,dI ds 56,dI ds 57,dI ds 58,dI ds 59,dI ds 60,dI ds 61,dI ds 62,dI ds 63,dI ds 64,dI ds 65,dI ds 66,dI ds 67,dI ds 68,dI ds 69,dI ds 70,dI ds 71,dI ds 72,dI ds 73,dI ds 74,dI ds 75,dI ds 76]
def msJ (ds:List Dt):Ms:=⟨[dI ds 1,dI ds 2,dI ds 3,dI ds 4,dI ds 5,dI ds 6,dI ds 7,dI ds 8,dI ds 9,dI ds 10,dI ds 11],dI ds 12,dI ds 77,dL ds 78,dL ds 79,dL ds 80,dL ds 81⟩
theorem el {n v:Nat} {ρ σ:Env} (h:Ag n ρ σ) (hv:v+64≤n):frI σ v=frI ρ v:=by
 show(List.range 64).map (fun k=>σ.i (v+k))=(List.range 64).map (fun k=>ρ.i (v+k))
 exact List.map_congr_left fun k hk=>(h (v+k) (by have:=List.mem_range.1 hk; omega)).1.symm
theorem rV {f:List (List Int)} (h:f.length=64):[gt f 0 0,gt f 1 0,gt f 2 0,gt f 3 0,gt f 4 0,gt f 5 0,gt f 6 0,gt f 7 0,gt f 8 0,gt f 9 0,gt f 10 0,gt f 11 0,gt f 12 0,gt f 13 0,gt f 14 0,gt f 15 0,gt f 16 0,gt f 17 0,gt f 18 0,gt f 19 0,gt f 20 0,gt f 21 0,gt f 22 0,gt f 23 0,gt f 24 0,gt f 25 0,gt f 26 0,gt f 27 0,gt f 28 0,gt f 29 0,gt f 30 0,gt f 31 0,gt f 32 0,gt f 33 0,gt f 34 0,gt f 35 0,gt f 36 0,gt f 37 0,gt f 38 0,gt f 39 0,gt f 40 0,gt f 41 0,gt f 42 0,gt f 43 0,gt f 44 0,gt f 45 0,gt f 46 0,gt f 47 0,gt f 48 0,gt f 49 0,gt f 50 0,gt f 51 0,gt f 52 0,gt f 53 0,gt f 54 0,gt f 55 0,gt f 56 0,gt f 57 0,gt f 58 0,gt f 59 0,gt f 60 0,gt f 61 0,gt f 62 0,gt f 63 0]=fmI f:=by
 show(List.range 64).map (fun k:Nat=>gt f (k:Int) 0)=fmI f
 refine List.ext_getElem (by simp[fmI,h]) fun i h1 h2=> ?_
 have h3:i<f.length:=by simpa[fmI] using h2
 simp[gt,fmI,List.getElem?_eq_getElem h3]
structure JAt (p:Prog) (cx an:List (List Int)) (fu left:Int) (m:Ms) (fr:List Int) (A L:List (List Int)):Prop where
 run:RunAt p cx an fu left m
 fr:fr=fmI m.fm
 at_:A++ir (aW p left.toNat m)=ir (aW p fu.toNat (ms0 cx an))
 sn:L++eN p left.toNat m=eN p fu.toNat (ms0 cx an)
 la:(A.length:Int)+left=fu
 ll:L.length=A.length
def JInv (p:Prog) (cx an:List (List Int)) (fu:Int) (ds:List Dt):Prop:=JAt p cx an fu (dI ds 0) (msJ ds) (frD ds) (dL ds 82) (dL ds 83)
theorem JAt.init {p:Prog} {cx an:List (List Int)} {fu:Int} (h0:0≤fu) (hl:1≤p.l.length):JAt p cx an fu fu (ms0 cx an) (List.replicate 64 0) [] []:=
 ⟨RunAt.init h0 hl,rfl,rfl,rfl,by show(0:Int)+fu=fu; omega,rfl⟩
theorem JAt.snap {p:Prog} {cx an:List (List Int)} {fu left:Int} {m:Ms} {fr:List Int} {A L:List (List Int)} (h:JAt p cx an fu left m fr A L):fH m=m.rg++m.st::fr:=by
 rw[h.fr]; rfl
theorem JAt.go {p:Prog} {cx an:List (List Int)} {fu left left':Int} {m m':Ms} {fr fr':List Int} {A A' L L':List (List Int)} (h:JAt p cx an fu left m fr A L) (hp:p.l.length≤maxLen) (hok:(aF p).2=0) (hf:fu≤10000) (hl:0<left) (hh:halt p m=0) (hm:m'=nxt p m) (he:left'=opI .sub .i64 left 1) (hA:A'=A++[[m.pc]]) (hL:L'=L++[fH m]) (hfr:fr'=fmI m'.fm):
  JAt p cx an fu left' m' fr' A' L'∧left'.toNat<left.toNat:=by
 obtain⟨g1,g2⟩:=h.run.go hp hok hf hl hh hm he
 have e1:opI .sub .i64 left 1=left-1:=by have:=h.run.hi; have:=h.run.lo; exact wrI (by omega) (by omega)
 refine⟨⟨g1,hfr,?_,?_,?_,?_⟩,g2⟩
 ·have:=h.at_
  rw[fX hl hh] at this
  rw[hA,hm,he,e1,List.append_assoc]; exact this
 ·have:=h.sn
  rw[qt hl hh] at this
  rw[hL,hm,he,e1,List.append_assoc]; exact this
 ·have:=h.la
  rw[hA,he,e1,List.length_append,List.length_singleton]; omega
 ·rw[hA,hL,List.length_append,List.length_append,h.ll]; rfl
theorem JAt.end {p:Prog} {cx an:List (List Int)} {fu left:Int} {m:Ms} {fr:List Int} {A L:List (List Int)} (ho:bq p cx fu=0) (h:JAt p cx an fu left m fr A L) (hl:0<left) {k:Int} (hh:halt p m=k) (hk:k≠0):bJ p cx an fu=(A++[[m.pc]],L++[fH m]):=by
 unfold bJ
 rw[if_neg (by simp[ho]),←h.at_,←h.sn,gT hl (by rw[hh]; exact hk),uS hl (by rw[hh]; exact hk)]
 rfl
theorem JAt.out {p:Prog} {cx an:List (List Int)} {fu left:Int} {m:Ms} {fr:List Int} {A L:List (List Int)} (ho:bq p cx fu=0) (h:JAt p cx an fu left m fr A L) (hl:¬0<left):bJ p cx an fu=(A,L):=by
 unfold bJ
 rw[if_neg (by simp[ho]),←h.at_,←h.sn,gR hl,uR hl]
 show(A++[],L++[])=(A,L)
 rw[List.append_nil,List.append_nil]
def shk (v:Int) (k:Nat):Int:=v / 2 ^ (8*k)
theorem ab2 (v:Int):shk v 0=v:=by unfold shk; rw[Nat.mul_zero,Int.pow_zero,Int.ediv_one]
theorem zq {v:Int} (h0:0≤v) (h1:v≤18446744073709551615) (k:Nat):0≤shk v k∧shk v k≤18446744073709551615:=by
 have hp:(0:Int)<2 ^ (8*k):=Int.pow_pos (by decide)
 exact⟨Int.ediv_nonneg h0 (Int.le_of_lt hp),Int.le_trans (Int.ediv_le_self _ h0) h1⟩
theorem ab1 {v:Int} (h0:0≤v) (h1:v≤18446744073709551615) (k:Nat):opI .shr .u64 (shk v k) 8=shk v (k+1):=by
 obtain⟨b0,b1⟩:=zq h0 h1 k
 have hp:(0:Int)<2 ^ (8*k):=Int.pow_pos (by decide)
 show(shk v k).fdiv (2 ^ min (8:Int).toNat 64)=_
 rw[show min (8:Int).toNat 64=8 from rfl,Int.fdiv_eq_ediv_of_nonneg _ (by decide)]
 have e:shk v k / 2 ^ 8=shk v (k+1):=by
  unfold shk
  rw[Int.ediv_ediv_of_nonneg (Int.le_of_lt hp),←Int.pow_add]; rfl
 exact e
theorem acV {v:Int} (h0:0≤v) (h1:v≤18446744073709551615) {k:Nat} (hk:k<8):IntKind.u8.wrap (opI .and .u64 (shk v k) 255)=IntKind.u8.wrap (opI .shr .u64 v (opI .mul .i64 8 (k:Int))):=by
 obtain⟨b0,b1⟩:=zq h0 h1 k
 have e2:opI .shr .u64 v (opI .mul .i64 8 (k:Int))=shk v k:=by
  rw[mulE hk]
  show v.fdiv (2 ^ min (((8*k:Nat):Int)).toNat 64)=_
  rw[Int.toNat_natCast,Nat.min_eq_left (by omega),Int.fdiv_eq_ediv_of_nonneg _ (Int.pow_nonneg (by decide))]
  rfl
 rw[e2]
 obtain⟨x,hx⟩:=Int.eq_ofNat_of_zero_le b0
 rw[hx] at b1 ⊢
 have e3:opI .and .u64 ((x:Nat):Int) 255=((x % 256:Nat):Int):=by
  show bits .and .u64 _ _=_
  rw[show(255:Int)=((2 ^ 8-1:Nat):Int) from rfl,u64_and_nat _ _ (by omega) (by decide),Nat.and_two_pow_sub_one_eq_mod]
 rw[e3]
 have w8:∀z:Int,IntKind.u8.wrap z=z % 256:=fun z=>rfl
 rw[w8,w8]; omega
theorem putR {b:Int} {l:List (List Int)} {a n:Int} (W:Win b l a n) (hl:l.length≤1048576) {v:Int} (h0:0≤v) (h1:v≤18446744073709551615) {k:Nat} (hk:k<n.toNat):
  st (putL l (a-b).toNat v k) (opI .add .i64 (a-b) (k:Int)) 0 (IntKind.u8.wrap (opI .and .u64 (shk v k) 255))=putL l (a-b).toNat v (k+1):=by
 rw[acV h0 h1 (by have:=W.n8; omega)]
 exact putS W hl v hk
theorem rR {l:List Int} (h:∀x∈l,inK .u64 x=true) (i:Nat):0≤l.getD i 0∧l.getD i 0≤18446744073709551615:=by
 rw[List.getD_eq_getElem?_getD]
 cases hq:l[i]? with
 | none=>exact⟨Int.le_refl _,by decide⟩
 | some x=>exact kf (h x (List.mem_of_getElem? hq))
theorem acN (rg:List Int):argR rg ((0:Nat):Int)=[]:=by
 unfold argR
 show List.drop 1 (List.take 1 _)=[]
 cases rg with
 | nil=>rfl
 | cons x l=>rfl
theorem zj {rg:List Int} {k:Nat} (h:(k:Int)≤5):(argR rg (k:Int)).length≤5:=by
 unfold argR
 rw[show opI .add .i64 1 (k:Int)=1+k from wrI (by omega) (by omega),List.length_drop,List.length_take,show(1:Int).toNat=1 from rfl]
 omega
theorem acJ (s:Int):opI .andNot .i64 (opI .or .i64 (opI .andNot .i64 (opI .or .i64 (opI .andNot .i64 (opI .or .i64 (opI .andNot .i64 (opI .or .i64 (opI .andNot .i64 (opI .or .i64 (opI .or .i64 s 1) 2) 2) 4) 4) 8) 8) 16) 16) 32) 32=clr5 s:=by
 have e:∀x b:Int,opI .andNot .i64 (opI .or .i64 x b) b=opI .andNot .i64 x b:=fun x b=>by
  rw[gW,gW,rq,cD]
  congr 1
  refine BitVec.eq_of_getLsbD_eq fun k hk=> ?_
  simp only[BitVec.getLsbD_and,BitVec.getLsbD_or,BitVec.getLsbD_not]
  cases(bvI x).getLsbD k<;>cases(bvI b).getLsbD k<;>simp
 rw[e,e,e,e,e]; rfl
theorem act {p:Prog} {m:Ms} (hk:(ae p.l m.pc).k=5) {k:Nat} (hn:(k:Int)=bo (ae p.l m.pc).imm) {r0 r1 r2 r3 r4 r5 r6 r7 r8 r9 r10:Int} (hr:m.rg=[r0,r1,r2,r3,r4,r5,r6,r7,r8,r9,r10]):
  (⟨[gt m.an 0 0,0,0,0,0,0,r6,r7,r8,r9,r10],opI .andNot .i64 (opI .or .i64 (opI .andNot .i64 (opI .or .i64 (opI .andNot .i64 (opI .or .i64 (opI .andNot .i64 (opI .or .i64 (opI .andNot .i64 (opI .or .i64 (opI .or .i64 m.st 1) 2) 2) 4) 4) 8) 8) 16) 16) 32) 32,opI .add .i64 m.pc 1,m.an.drop (1:Int).toNat,m.tr++[[(ae p.l m.pc).imm,gt m.an 0 0,((argR m.rg (k:Int)).length:Int),gt (argR m.rg (k:Int)) 0 0,gt (argR m.rg (k:Int)) 1 0,gt (argR m.rg (k:Int)) 2 0,gt (argR m.rg (k:Int)) 3 0,gt (argR m.rg (k:Int)) 4 0]],m.cx,m.fm⟩:Ms)=nxt p m:=by
 rw[abh hk,acJ,hn]
 have h5:=aE (ae p.l m.pc).imm
 have hl:((argR m.rg (bo (ae p.l m.pc).imm)).length:Int)=IntKind.i64.wrap ((argR m.rg (bo (ae p.l m.pc).imm)).length:Int):=by
  have:(argR m.rg (bo (ae p.l m.pc).imm)).length≤11:=by
   unfold argR
   rw[List.length_drop,List.length_take,List.length_map,hr]
   exact Nat.le_trans (Nat.sub_le _ _) (Nat.min_le_right _ _)
  rw[wrI (by omega) (by omega)]
 unfold Ms.call acF
 rw[←hl,hr]; rfl
end Go.Proofs.Ytghiofgomcihcaa
set_option linter.unusedSimpArgs false
set_option linter.unusedVariables false
set_option linter.unusedVariables false
set_option linter.unusedSimpArgs false
namespace Go.Proofs.Ytghiofgomcihcaa
open Go Go.RowKit
theorem tf {p:Prog} {cx an:List (List Int)} {fu:Int} (ho:bq p cx fu=0):(bJ p cx an fu).1=ir (aW p fu.toNat (ms0 cx an)):=by
 unfold bJ; rw[if_neg (by simp[ho])]
theorem bm (L:List Int):(ir L).length=L.length:=List.length_map ..
theorem vS (L:List Int) (k:Nat):gt (ir L) (k:Int) 0=L.getD k 0:=by
 have:=mD L (k:Int)
 rw[Int.toNat_natCast] at this
 exact this
theorem rD {p:Prog} {cx an:List (List Int)} {fu:Int} (h:(mrun p cx an fu).2≠0):bq p cx fu≠0:=by
 intro ho
 apply h
 unfold mrun
 rw[if_neg (by simp[ho])]
end Go.Proofs.Ytghiofgomcihcaa
set_option linter.unusedSimpArgs false
set_option linter.unusedVariables false
set_option linter.unusedVariables false
set_option linter.unusedSimpArgs false
namespace Go.Proofs.Ytghiofgomcihcaa
open Go Go.RowKit
structure EAt (p:Prog) (cx an:List (List Int)) (fu left n:Int) (m:Ms) (fr:List Int):Prop where
 run:RunAt p cx an fu left m
 fr:fr=fmI m.fm
 nn:n=fu-left
 dp:(aW p fu.toNat (ms0 cx an)).drop n.toNat=aW p left.toNat m
 ds:(eN p fu.toNat (ms0 cx an)).drop n.toNat=eN p left.toNat m
def msE2 (ds:List Dt):Ms:=⟨[dI ds 1,dI ds 2,dI ds 3,dI ds 4,dI ds 5,dI ds 6,dI ds 7,dI ds 8,dI ds 9,dI ds 10,dI ds 11],dI ds 12,dI ds 77,dL ds 80,dL ds 81,dL ds 82,dL ds 83⟩
def EInv (p:Prog) (cx an:List (List Int)) (fu:Int) (ds:List Dt):Prop:=EAt p cx an fu (dI ds 0) (dI ds 79) (msE2 ds) (frD ds)
theorem EAt.init {p:Prog} {cx an:List (List Int)} {fu:Int} (h0:0≤fu) (hl:1≤p.l.length):EAt p cx an fu fu 0 (ms0 cx an) (List.replicate 64 0):=
 ⟨RunAt.init h0 hl,rfl,by omega,rfl,rfl⟩
theorem gk {α:Type} {L:List α} {n:Nat} {x:α} {r:List α} (h:L.drop n=x::r):L[n]? =some x∧L.drop (n+1)=r∧n<L.length:=by
 have h1:=congrArg (fun z:List α=>z[0]?) h
 simp only[List.getElem?_drop,Nat.add_zero,List.getElem?_cons_zero] at h1
 refine⟨h1,?_,?_⟩
 ·rw[←List.drop_drop,h]; rfl
 ·rcases Nat.lt_or_ge n L.length with h2 | h2
  ·exact h2
  ·rw[List.getElem?_eq_none h2] at h1; cases h1
theorem wi {p:Prog} {left:Int} {m:Ms} (h:0<left):∃r,aW p left.toNat m=m.pc::r:=by
 rw[show left.toNat=(left-1).toNat+1 by omega]
 exact⟨_,rfl⟩
theorem xT {p:Prog} {left:Int} {m:Ms} (h:0<left):∃r,eN p left.toNat m=fH m::r:=by
 rw[show left.toNat=(left-1).toNat+1 by omega]
 exact⟨_,rfl⟩
theorem EAt.here {p:Prog} {cx an:List (List Int)} {fu left n:Int} {m:Ms} {fr:List Int} (h:EAt p cx an fu left n m fr) (hl:0<left):
  n.toNat<(aW p fu.toNat (ms0 cx an)).length∧(aW p fu.toNat (ms0 cx an)).getD n.toNat 0=m.pc∧(eN p fu.toNat (ms0 cx an)).getD n.toNat []=m.rg++m.st::fr:=by
 obtain⟨r,hr⟩:=wi (p:=p) (m:=m) hl
 obtain⟨s,hs⟩:=xT (p:=p) (m:=m) hl
 obtain⟨a1,_,a3⟩:=gk (h.dp.trans hr)
 obtain⟨b1,_,_⟩:=gk (h.ds.trans hs)
 refine⟨a3,?_,?_⟩
 ·rw[List.getD_eq_getElem?_getD,a1]; rfl
 ·rw[List.getD_eq_getElem?_getD,b1,h.fr]; rfl
theorem EAt.go {p:Prog} {cx an:List (List Int)} {fu left left' n n':Int} {m m':Ms} {fr fr':List Int} (h:EAt p cx an fu left n m fr) (hp:p.l.length≤maxLen) (hok:(aF p).2=0) (hf:fu≤10000) (hl:0<left) (hh:halt p m=0) (hm:m'=nxt p m) (he:left'=opI .sub .i64 left 1) (hn:n'=opI .add .i64 n 1) (hfr:fr'=fmI m'.fm):
  EAt p cx an fu left' n' m' fr'∧left'.toNat<left.toNat:=by
 obtain⟨g1,g2⟩:=h.run.go hp hok hf hl hh hm he
 have e1:=h.run.sub1 hf
 have h3:=h.nn; have h4:=h.run.lo; have h5:=h.run.hi
 have e2:n'=n+1:=by rw[hn]; exact wrI (by omega) (by omega)
 refine⟨⟨g1,hfr,by omega,?_,?_⟩,g2⟩
 ·obtain⟨_,a2,_⟩:=gk (h.dp.trans (fX hl hh))
  rw[hm,he,e1,←a2,e2,show(n+1).toNat=n.toNat+1 by omega]
 ·obtain⟨_,a2,_⟩:=gk (h.ds.trans (qt hl hh))
  rw[hm,he,e1,←a2,e2,show(n+1).toNat=n.toNat+1 by omega]
theorem EAt.end {p:Prog} {cx an:List (List Int)} {fu left n:Int} {m:Ms} {fr:List Int} (h:EAt p cx an fu left n m fr) (hf:fu≤10000) (hl:0<left) {k:Int} (hh:halt p m=k) (hk:k≠0):opI .add .i64 n 1=(((ir (aW p fu.toNat (ms0 cx an))).length:Nat):Int):=by
 have h3:=h.nn; have h4:=h.run.lo; have h5:=h.run.hi
 rw[bm,gS,h.run.rn,mG hl (by rw[hh]; exact hk),show opI .add .i64 n 1=n+1 from wrI (by omega) (by omega)]
 show n+1=((fu.toNat:Nat):Int)-(left-1)
 omega
theorem EAt.out {p:Prog} {cx an:List (List Int)} {fu left n:Int} {m:Ms} {fr:List Int} (h:EAt p cx an fu left n m fr) (hl:¬0<left):n=(((ir (aW p fu.toNat (ms0 cx an))).length:Nat):Int):=by
 have h3:=h.nn; have h4:=h.run.lo; have h5:=h.run.hi
 rw[bm,gS,h.run.rn,mF h.run.lo hl]
 show n=((fu.toNat:Nat):Int)-0
 omega
theorem te {p:Prog} {cx an:List (List Int)} {fu:Int} (ho:bq p cx fu=0):(bJ p cx an fu).2=eN p fu.toNat (ms0 cx an):=by
 unfold bJ; rw[if_neg (by simp[ho])]
theorem fY {p:Prog} {cx an:List (List Int)} {fu:Int} (h:¬bq p cx fu=0):(0:Int)=(((bJ p cx an fu).1.length:Nat):Int):=by
 rw[cy rfl h]; rfl
end Go.Proofs.Ytghiofgomcihcaa
