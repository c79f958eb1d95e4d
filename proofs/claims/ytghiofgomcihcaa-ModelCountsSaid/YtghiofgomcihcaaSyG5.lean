import Derived.Test.YtghiofgomcihcaaSyG3
import Derived.Maps.RangeRun
set_option linter.unusedVariables false
set_option linter.unusedSimpArgs false
namespace Go.Proofs.Ytghiofgomcihcaa
open Go.RowKit
open Go.ChangeMaps (setBlock)
section
variable {P:Program} {sp:Spec} {ρ:Env} {G:Env→E→Prop} {I:Nat→List Dt→Prop} {base:Nat} {cx:Cx} {vw:Vw} {o:Oper} {k:Eff→Kw→Tr}
theorem gn {w:World} {r c:Nat} {es:Array MapEntry} (h:w.heap[r]? =some (.map es c)):(getObj r).run P w=.ok (.map es c) w:=by simp[getObj,Sem.run,h]
theorem jS {w:World} {r c:Nat} {es:Array MapEntry} (h:w.heap[r]? =some (.map es c)) (ob:Obj):(setObj r ob).run P w=.ok () (setBlock w r ob):=by simp[setObj,Sem.run,h,setBlock]
theorem eE (w:World) (r:Nat) (ob:Obj):w.grownBy (setBlock w r ob) (some r):=by
 refine⟨rfl,rfl,rfl,by simp[setBlock],fun k hk hne=> ?_⟩
 have:r≠k:=fun e=>hne (by rw[e])
 simp[setBlock,Array.getElem?_setIfInBounds,this]
theorem iE {w:World} {r:Nat} (h:r<w.heap.size) (ob:Obj):(setBlock w r ob).heap[r]? =some ob:=by
 simp[setBlock,Array.getElem?_setIfInBounds,h]
theorem jt:∀{ks:List CE} {a b:List Int},ah ks a=true→ah ks b=true→eqVs (rowV ks a) (rowV ks b)=(a==b)
 | [],[],[],_,_=>rfl
 | some k::ks,x::xs,y::ys,ha,hb=>by
   simp only[ah,Bool.and_eq_true] at ha hb
   simp only[rowV,cm,eqVs,jt ha.2 hb.2]
   rfl
 | none::ks,x::xs,y::ys,ha,hb=>by
   simp only[ah,Bool.and_eq_true,inCE,Bool.or_eq_true,beq_iff_eq] at ha hb
   simp only[rowV,cm,eqVs,jt ha.2 hb.2]
   show _=((x==y)&&(xs==ys))
   rcases ha.1 with rfl | rfl<;>rcases hb.1 with rfl | rfl<;>rfl
theorem ee:∀{zs:List C} {ks:List CE} {a:List Int},ksOf zs=some ks→ah ks a=true→aE (rowV ks a) zs
 | [],ks,a,h,ha=>by cases h; cases a with
   | nil=>trivial
   | cons=>cases ha
 | .int k e::zs,ks,a,h,ha=>by
   simp only[ksOf,Option.map_eq_some_iff] at h
   obtain⟨l,hl,rfl⟩:=h
   cases a with
   | nil=>cases ha
   | cons x xs=>
     simp only[ah,Bool.and_eq_true] at ha
     exact⟨rfl,ha.1,ee hl ha.2⟩
 | .bool e::zs,ks,a,h,ha=>by
   simp only[ksOf,Option.map_eq_some_iff] at h
   obtain⟨l,hl,rfl⟩:=h
   cases a with
   | nil=>cases ha
   | cons x xs=>
     simp only[ah,Bool.and_eq_true] at ha
     exact ee (zs:=zs) (ks:=l) (a:=xs) hl ha.2
theorem cC:∀{zs:List C} {ks:List CE},ksOf zs=some ks→ks.length=zs.length
 | [],_,h=>by cases h; rfl
 | .int _ _::zs,ks,h=>by
   simp only[ksOf,Option.map_eq_some_iff] at h
   obtain⟨l,hl,rfl⟩:=h
   simp[cC hl]
 | .bool _::zs,ks,h=>by
   simp only[ksOf,Option.map_eq_some_iff] at h
   obtain⟨l,hl,rfl⟩:=h
   simp[cC hl]
theorem cj:∀{cs zs:List C},bk cs zs=true→cs.length=zs.length
 | [],[],_=>rfl
 | .int _ _::l,.int _ _::r,h=>by simp only[bk,Bool.and_eq_true] at h; simp[cj h.2]
 | .bool _::l,.bool _::r,h=>by simp only[bk] at h; simp[cj h]
theorem iS:∀(ks:List CE) (r:List Int) (n:Nat),(rowV ks r).take n=rowV (ks.take n) (r.take n)
 | [],r,n=>by simp[rowV]
 | k::ks,[],n=>by cases n<;>simp[rowV]
 | k::ks,x::xs,0=>by simp[rowV]
 | k::ks,x::xs,n+1=>by simp[rowV,iS ks xs n]
theorem jT:∀{ks:List CE} {r:List Int} (n:Nat),ah ks r=true→ah (ks.take n) (r.take n)=true
 | [],[],n,_=>by simp[ah]
 | k::ks,x::xs,0,_=>rfl
 | k::ks,x::xs,n+1,h=>by
   simp only[ah,Bool.and_eq_true] at h
   simp[ah,h.1,jT n h.2]
def cR (r:List Int):Nat→List CE→List Value
 | _,[]=>[]
 | c,k::ks=>cm k (r.getD c 0)::cR r (c+1) ks
theorem dW (x:Int) (xs:List Int):∀(ks:List CE) (c:Nat),cR (x::xs) (c+1) ks=cR xs c ks
 | [],c=>rfl
 | k::ks,c=>by simp only[cR,dW x xs ks (c+1)]; rfl
theorem dy:∀{ks:List CE} {r:List Int} (c:Nat),ah ks r=true→cR r c (ks.drop c)=(rowV ks r).drop c
 | [],[],c,_=>by simp[cR,rowV]
 | k::ks,x::xs,0,h=>by
   simp only[ah,Bool.and_eq_true] at h
   have:=dy 0 h.2
   simp only[List.drop_zero] at this ⊢
   simp only[cR,rowV,dW,this]
   rfl
 | k::ks,x::xs,c+1,h=>by
   simp only[ah,Bool.and_eq_true] at h
   simp only[List.drop_succ_cons,dW,rowV]
   exact dy c h.2
theorem fX:∀{ks:List CE} {r:List Int} (c:Nat),ah ks r=true→cR r 0 (ks.take c)=(rowV ks r).take c
 | [],[],c,_=>by simp[cR,rowV]
 | k::ks,x::xs,0,h=>by simp[cR]
 | k::ks,x::xs,c+1,h=>by
   simp only[ah,Bool.and_eq_true] at h
   simp only[List.take_succ_cons,cR,rowV,dW,fX c h.2]
   rfl
theorem cW {j:J} {l e:E}:∀(ks:List CE) (c:Nat),denL ρ j (cg l e c ks)=some (cR ((l.R ρ).getD (e.I ρ).toNat []) c ks)
 | [],c=>rfl
 | k::ks,c=>by
   simp only[cg,denL,lw,cW ks (c+1),cR]
   rfl
theorem iy {j:J}:∀{zs:List C} {ks:List CE} (c:Nat),zs.all C.isZero=true→ksOf zs=some ks→denL ρ j zs=some (cR [] c ks)
 | [],ks,c,_,h=>by cases h; rfl
 | .int k (.lit z)::zs,ks,c,hz,h=>by
   simp only[ksOf,Option.map_eq_some_iff] at h
   obtain⟨l,hl,rfl⟩:=h
   simp only[List.all_cons,Bool.and_eq_true] at hz
   have e:z=0:=bq hz.1
   subst e
   simp only[denL,C.den,E.I,iy (c+1) hz.2 hl,cR]
   simp[cm]
 | .bool (.tt b)::zs,ks,c,hz,h=>by
   simp only[ksOf,Option.map_eq_some_iff] at h
   obtain⟨l,hl,rfl⟩:=h
   simp only[List.all_cons,Bool.and_eq_true] at hz
   have e:b=false:=by simpa[C.isZero] using hz.1
   subst e
   simp only[denL,C.den,E.B,iy (c+1) hz.2 hl,cR]
   simp[cm]
theorem bh {ks:List CE} {nk:Nat} {ka va:Bool}:∀(L:List (List Int)) (i m:Nat),(aR ks nk ka va i L)[m]? =(L[m]?).map (entV ks nk ka va (i+m))
 | [],i,m=>by simp[aR]
 | r::L,i,0=>by simp[aR]
 | r::L,i,m+1=>by
   simp only[aR,List.getElem?_cons_succ,bh L (i+1) m]
   congr 2
   omega
theorem bY {ks:List CE} {nk:Nat} {ka va:Bool}:∀(L:List (List Int)) (i:Nat),(aR ks nk ka va i L).length=L.length
 | [],i=>rfl
 | r::L,i=>by simp[aR,bY L]
def cP (key r:List Int):Bool:=r.take key.length==key
def dj (ks:List CE) (nk:Nat) (va:Bool) (key:List Int) (i:Nat) (L:List (List Int)):Option (Nat×Value):=
 (L[L.findIdx (cP key)]?).map fun r=>(i+L.findIdx (cP key),aO va ((rowV ks r).drop nk))
theorem ku {ks:List CE} {nk:Nat} {va:Bool} {key:List Int} {i:Nat} {r:List Int} {L:List (List Int)}:dj ks nk va key i (r::L)=if cP key r=true then some (i,aO va ((rowV ks r).drop nk)) else dj ks nk va key (i+1) L:=by
 unfold dj
 rw[List.findIdx_cons]
 cases h:cP key r with
 | true=>simp
 | false=>
   simp only[cond_false,List.getElem?_cons_succ,Bool.false_eq_true,if_false]
   congr 1
   funext r
   congr 1
   omega
theorem fQ {ks:List CE} {nk kt:Nat} {ka va:Bool} {key:List Int} {K:Value}:∀(L:List (List Int)) (i:Nat) (w:World),(∀r∈L,∀i w,(Op.equal kt K (entV ks nk ka va i r).key).run P w=.ok (cP key r) w)→
  (Instr.findAsking kt K (aR ks nk ka va i L) i).run P w=.ok (dj ks nk va key i L) w
 | [],i,w,_=>by simp[aR,Instr.findAsking,dj]
 | r::L,i,w,h=>by
   simp only[aR,Instr.findAsking,Sem.run_bind,h r List.mem_cons_self,Result.andThen_ok,ku]
   cases cP key r with
   | true=>simp[entV]
   | false=>simp only[Bool.false_eq_true,if_false]; exact fQ L (i+1) w (fun r hr=>h r (List.mem_cons_of_mem _ hr))
theorem kD {ks:List CE} {nk:Nat} {kd:IntKind} {va:Bool} {x:Int} (hks:∃t,ks=some kd::t) (hn:nk=1):∀(L:List (List Int)) (i:Nat),(∀r∈L,ah ks r=true)→
  Instr.findNow (.int kd) (.int kd x) (aR ks nk false va i L) i=some (dj ks nk va [x] i L)
 | [],i,_=>by simp[aR,Instr.findNow,dj]
 | r::L,i,h=>by
   obtain⟨t,rfl⟩:=hks
   subst hn
   have hr:=h r List.mem_cons_self
   cases r with
   | nil=>cases hr
   | cons y ys=>
     have e:(entV (some kd::t) 1 false va i (y::ys)).key=.int kd y:=rfl
     simp only[aR,Instr.findNow,e,Instr.sameNow,if_true]
     rw[ku]
     have e2:cP [x] (y::ys)=(x==y):=by
      show([y]==[x])=_
      rw[Bool.eq_iff_iff]; simp; exact eq_comm
     rw[e2]
     cases x==y with
     | true=>rfl
     | false=>simp only[Bool.false_eq_true,if_false]; exact kD ⟨t,rfl⟩ rfl L (i+1) (fun r hr=>h r (List.mem_cons_of_mem _ hr))
theorem ny {ks:List CE} {nk:Nat} {va:Bool} {key:List Int} {L:List (List Int)}:decide (mixI L key<(L.length:Int))=(dj ks nk va key 0 L).isSome:=by
 unfold dj mixI
 rw[show(fun r:List Int=>r.take key.length==key)=cP key from rfl]
 rw[Bool.eq_iff_iff]
 simp only[decide_eq_true_eq,Option.isSome_map]
 rw[Option.isSome_iff_ne_none,ne_eq,List.getElem?_eq_none_iff]
 omega
structure Fits (P:Program) (ρ:Env) (i:TI) (r:RowOb) (nk:Nat) (ka va:Bool) (ki ei:TI) (kt et t:Nat) (K:Value) (kvals:List Value) (key:List Int):Prop where
 ty:r.ty=t
 und:P.underlying t=some (.map kt et)
 kval:K=aO ka kvals
 kk:kvals=rowV (r.ks.take nk) key
 kin:ah (r.ks.take nk) key=true
 len:key.length=nk
 pos:nk≤r.ks.length
 zero:∃z,(∀w,(zeroValue et).run P w=.ok z w)∧z=aO va (cR [] nk (r.ks.drop nk))
 chk:∀b w,(Instr.checkKey b 10000 kt K).run P w=.ok () w
 find:∀L:List (List Int),(∀x∈L,ah r.ks x=true)→∀w,(Instr.findKey kt K (aR r.ks nk ka va 0 L)).run P w=.ok (dj r.ks nk va key 0 L) w
 bits:Instr.sameBits 10000 K K=true
theorem xZ {j:J} {kv:V} {K:Value} {ka:Bool} {vals:List Value} (hd:kv.den ρ j=some K) (ha:vZ ka kv=true) (hv:denL ρ j kv.cells=some vals):K=aO ka vals:=by
 cases kv with
 | one c=>
   have:ka=false:=by simpa[vZ] using ha
   subst this
   have hd':c.den ρ j=some K:=hd
   simp only[V.cells,denL,hd',Option.some.injEq] at hv
   subst hv
   rfl
 | agg cs=>
   have:ka=true:=ha
   subst this
   simp only[V.den,Option.map_eq_some_iff] at hd
   obtain⟨vs,h1,rfl⟩:=hd
   simp only[V.cells] at hv
   rw[h1] at hv; cases hv
   rfl
 | tup _=>cases ha
 | top=>cases hd
theorem fl (n:Nat) (k:CE) (x:Int):Instr.sameBits (n+1) (cm k x) (cm k x)=true:=by
 cases k<;>simp[cm,Instr.sameBits]
theorem pS:∀{ks:List CE} {r:List Int} {v:Value},v∈rowV ks r→∃k x,v=cm k x
 | [],_,v,h=>by simp[rowV] at h
 | k::ks,[],v,h=>by simp[rowV] at h
 | k::ks,x::xs,v,h=>by
   rcases List.mem_cons.1 h with rfl | h
   ·exact⟨k,x,rfl⟩
   ·exact pS h
theorem mN {ks:List CE} {r:List Int}:Instr.sameBits 10000 (.agg (rowV ks r).toArray) (.agg (rowV ks r).toArray)=true:=by
 show((rowV ks r).toArray.size==(rowV ks r).toArray.size&&((rowV ks r).toArray.toList.zip (rowV ks r).toArray.toList).all fun(x,y)=>Instr.sameBits 9999 x y)=true
 rw[Bool.and_eq_true]
 refine⟨by simp,List.all_eq_true.2 fun p hp=> ?_⟩
 have e:∀(l:List Value),∀p∈l.zip l,p.1=p.2∧p.1∈l:=by
  intro l
  induction l with
  | nil=>intro p hp; simp at hp
  | cons a l ih=>
    intro p hp
    rcases List.mem_cons.1 hp with rfl | hp
    ·exact⟨rfl,List.mem_cons_self⟩
    ·exact⟨(ih p hp).1,List.mem_cons_of_mem _ (ih p hp).2⟩
 obtain⟨h1,h2⟩:=e _ p hp
 obtain⟨a,b⟩:=p
 simp only at h1 h2
 subst h1
 obtain⟨k,x,rfl⟩:=pS h2
 exact fl 9998 k x
theorem ov (d:TypeDesc) (a:Array Value) (v:Value):Instr.sameNow d (.agg a) v=none:=by cases d<;>rfl
theorem xy {kt:Nat} {kd kd':IntKind} (hu:P.underlying kt=some (.int kd)) (x:Int) (b:Bool) (w:World):(Instr.checkKey b 10000 kt (.int kd' x)).run P w=.ok () w:=by
 show(Instr.checkKey b (9999+1) kt (.int kd' x)).run P w=_
 unfold Instr.checkKey
 rw[Sem.run_bind,run_underlying hu]
 rfl
theorem vy (hT:∀t i,(t,i)∈cx.ty→TIok P t i) {j:J} {vk:List VK} (hv:Vk ρ vk) {t kt et nk:Nat} {i ki ei:TI} {r:RowOb} {ka va:Bool} {kv:V} {K:Value} {key:E} (hi:af t cx.ty=some i) (hm:i.mapt=some (kt,et)) (hki:af kt cx.ty=some ki) (hei:af et cx.ty=some ei)
  (hkey:rowE vk (r.ks.take nk) kv.cells=some key) (hf:di i r nk ka va ki ei kv t=true) (hd:kv.den ρ j=some K):∃kvals,denL ρ j kv.cells=some kvals∧Fits P ρ i r nk ka va ki ei kt et t K kvals (key.L ρ):=by
 have ti:=hT _ _ (ab hi)
 have tk:=hT _ _ (ab hki)
 have te:=hT _ _ (ab hei)
 unfold di at hf
 simp only[Bool.and_eq_true,beq_iff_eq] at hf
 obtain⟨f1,f2,f3,f4,f5,f6,f7,f8,f9⟩:=hf
 split at f9
 ·rename_i a b ha hb
  have hks:=aP f9
  have hn:nk=kv.cells.length:=Nat.eq_of_beq_eq_true f8
  have hal:a.length=nk:=by rw[cC ha,hn,cj f6]
  have t1:r.ks.take nk=a:=by rw[hks,←hal,List.take_left']; rfl
  have t2:r.ks.drop nk=b:=by rw[hks,←hal,List.drop_left']; rfl
  have hflat:kv.flat=true:=by cases kv<;>first | rfl | (cases f2)
  obtain⟨kvals,hkv⟩:∃kvals,denL ρ j kv.cells=some kvals:=⟨_,V.cells_ok hd hflat⟩
  obtain⟨e1,e2⟩:=gq hv hkey hkv
  have hK:=xZ hd f2 hkv
  have hlen:(key.L ρ).length=nk:=by rw[aX e2,t1,hal]
  have isz:0<10000:=by decide
  refine⟨kvals,hkv,Nat.eq_of_beq_eq_true f1,ti.mapt _ _ hm,hK,e1,e2,hlen,by rw[hks,List.length_append]; omega,?_,?_,?_,?_⟩
  ·obtain⟨z,hz,hzd⟩:=te.zero
   refine⟨z,hz,?_⟩
   have h1:=hzd ρ j
   rw[iy nk f5 hb] at h1
   have h2:=te.zsh z hz
   have hzc:z.cells.toList=cR [] nk b:=(Option.some.inj h1).symm
   rw[t2]
   cases va with
   | true=>rw[h2.1 f4,←hzc]; simp[aO]
   | false=>
     have h3:=h2.2 f4
     rw[h3] at hzc
     simp only[aO,Bool.false_eq_true,if_false,←hzc]
     rfl
  all_goals
   cases ka with
   | true=>
     simp only[cond_true,Bool.and_eq_true] at f7
     have K1:K=.agg (rowV a (key.L ρ)).toArray:=by rw[hK,e1,t1]; rfl
     have kz:=ee ha (t1▸e2)
     first
      | exact fun b w=>by rw[K1]; exact tk.key f7.1 _ kz b w
      | (intro L hL w
         unfold Instr.findKey
         obtain⟨d,hdu⟩:=tk.und
         rw[Sem.run_bind,run_underlying hdu,Result.andThen_ok]
         cases L with
         | nil=>simp[aR,Instr.findNow,dj]
         | cons x L=>
           simp only[aR,Instr.findNow]
           rw[K1,ov]
           simp only
           rw[←K1]
           refine fQ (x::L) 0 w fun y hy i w=> ?_
           have hy':=hL y hy
           have e3:(entV r.ks nk true va i y).key=.agg (rowV a (y.take nk)).toArray:=by
            show aO true ((rowV r.ks y).take nk)=_
            rw[iS,t1]; rfl
           have hy2:ah a (y.take nk)=true:=t1▸jT nk hy'
           rw[K1,e3,tk.eq f7.2 _ _ kz (ee ha hy2),jt (t1▸e2) hy2]
           congr 1
           unfold cP
           rw[hlen,Bool.eq_iff_iff]
           simp only[beq_iff_eq]
           exact eq_comm)
      | (rw[K1]; exact mN)
   | false=>
     simp only[cond_false] at f7
     split at f7
     ·rename_i kd kd' rest hik hr0
      simp only[Bool.and_eq_true] at f7
      have hkd:=ao f7.1
      subst hkd
      have n1:nk=1:=Nat.eq_of_beq_eq_true f7.2
      subst n1
      have hu:=tk.ik kd hik
      have ha':a=[some kd]:=by rw[←t1,hr0]; rfl
      obtain⟨x,hx⟩:∃x,key.L ρ=[x]:=by
       have:=hlen
       match hk2:key.L ρ,this with
       | [x],_=>exact⟨x,rfl⟩
      have K1:K=.int kd x:=by rw[hK,e1,t1,ha',hx]; rfl
      first
       | exact fun b w=>by rw[K1]; exact xy hu x b w
       | (intro L hL w
          unfold Instr.findKey
          rw[Sem.run_bind,run_underlying hu,Result.andThen_ok,K1,kD ⟨rest,hr0⟩ rfl L 0 hL,hx]
          rfl)
       | (rw[K1]; exact fl 9999 (some kd) x)
     ·cases f7
 ·cases f9
theorem zL {j:J} {id:Nat} {s:SV} {v:Value} (hs:j.s id=some s) (h:(V.one (.mp id)).den ρ j=some v):v=s.mv:=by
 have h':(j.s id).map SV.mv=some v:=h
 rw[hs] at h'
 exact(Option.some.inj h').symm
theorem Vw.mw_some {vw:Vw} {id nk:Nat} {r:RowOb} {ka va:Bool} (h:vw.mw id=some (r,nk,ka,va)):vw.rw id=some r∧r.kd=.map nk ka va:=by
 unfold Vw.mw at h
 split at h
 ·rename_i q hq
  split at h
  ·rename_i hk; cases h; exact⟨hq,hk⟩
  ·cases h
 ·cases h
theorem Vw.iw_some {vw:Vw} {id mid:Nat} {r:RowOb} {n:E} (h:vw.iw id=some (r,mid,n)):vw.rw id=some r∧r.kd=.it mid n:=by
 unfold Vw.iw at h
 split at h
 ·rename_i q hq
  split at h
  ·rename_i hk; cases h; exact⟨hq,hk⟩
  ·cases h
 ·cases h
theorem RowOk.map {w:World} {s:SV} {r:RowOb} {nk:Nat} {ka va:Bool} (h:RowOk ρ base w s r) (hk:r.kd=.map nk ka va):∃g,s.a=some ⟨g,0,none⟩∧base≤g∧w.heap[g]? =some (.map (aR r.ks nk ka va 0 (r.l.R ρ)).toArray (r.l.R ρ).length)∧RowsIn r.ks (r.l.R ρ)∧s.c=1∧r.own=true:=by
 have hd:=h.2.1 (by rw[hk]; rfl)
 obtain⟨g,ob,h1,h2,h3,h4⟩:=hd.at'
 unfold obOf at h4
 rw[hk] at h4
 exact⟨g,h1,h2,by rw[h3,h4],hd.rows,hd.c,hd.own⟩
theorem xY {w:World} {s:SV} {r:RowOb} {nk:Nat} {ka va:Bool} {g:Nat} (hk:r.kd=.map nk ka va) (ho:r.own=true) (h1:s.a=some ⟨g,0,none⟩) (h2:base≤g) (h3:w.heap[g]? =some (.map (aR r.ks nk ka va 0 (r.l.R ρ)).toArray (r.l.R ρ).length)) (h4:RowsIn r.ks (r.l.R ρ)) (h5:s.c=1):RowOk ρ base w s r:=
 HdOk.row ⟨ho,h4,h5,g,_,h1,h2,h3,by unfold obOf; rw[hk]⟩ (by rw[hk]; rfl)
theorem oe (hT:∀t i,(t,i)∈cx.ty→TIok P t i) {t kt et:Nat} {kw:Kw} (hop:o.op=.makeMap t none) {i ki ei:TI} (hi:af t cx.ty=some i) (hm:i.mapt=some (kt,et)) {kk ek:List CE}
  (h:(k {val:=.one (.mp vw.nid),re:=.mk [⟨kk++ek,t,.lnil,true,.map kk.length ki.agg ei.agg⟩]} kw).holds sp G ρ I) (hg:Good sp cx.sm ρ kw):Sound P sp ρ G I base cx vw o k kw:=by
 refine⟨_,kw,h,hg,.refl _,fun j a w hb hev hrd hwr hrr hfb K Q hK=> ?_⟩
 have hx:Ext w (w.alloc (.map #[] 0)):=(Ext.refl w).alloc _
 refine bf (w':=w.alloc (.map #[] 0)) (v:=.map (some w.heap.size)) ?_ (hK _ (j.putL vw.nid [⟨some ⟨w.heap.size,0,none⟩,1,1,[]⟩]) _ (by simp[V.den,C.den,J.putL,SV.mv]) (ji hx (xY (g:=w.heap.size) rfl rfl rfl (Nat.le_refl _) (heap_alloc_new _ _) ⟨by simp[E.R],by simp[E.R]⟩ rfl) rfl rfl))
 simp[execOp,hop,Instr.makeMap,newObj,Sem.run_bind,Sem.run]
theorem lr {w:World} {t kt et nk g:Nat} {i ki ei:TI} {r:RowOb} {ka va:Bool} {K:Value} {kvals:List Value} {key:List Int} (hF:Fits P ρ i r nk ka va ki ei kt et t K kvals key) {L:List (List Int)} (hL:∀x∈L,ah r.ks x=true) (hw:w.heap[g]? =some (.map (aR r.ks nk ka va 0 L).toArray L.length)) (ok:Bool):
  (Instr.lookup t (.map (some g)) K ok).run P w=.ok (if ok=true then .tuple #[aO va (cR (L.getD (mixI L key).toNat []) nk (r.ks.drop nk)),.bool (decide (mixI L key<(L.length:Int)))] else aO va (cR (L.getD (mixI L key).toNat []) nk (r.ks.drop nk))) w:=by
 have hfd:=hF.find L hL w
 obtain⟨z,hz,hz2⟩:=hF.zero
 have hmx:(mixI L key).toNat=L.findIdx (cP key):=by
  unfold mixI
  rw[show(fun r:List Int=>r.take key.length==key)=cP key from rfl]; simp
 have key':(Instr.lookup t (.map (some g)) K ok).run P w=((match dj r.ks nk va key 0 L with
   | some (_,v)=>pure (v,true)
   | none=>do pure (←zeroValue et,false):Sem (Value×Bool)) >>= fun p=>pure (if ok=true then .tuple #[p.1,.bool p.2] else p.1)).run P w:=by
  unfold Instr.lookup
  simp only[Sem.run_bind,run_underlying hF.und,Result.andThen_ok,gn hw,Sem.run_pure,hF.chk,hfd]
  cases dj r.ks nk va key 0 L with
  | none=>simp only[Sem.run_bind,hz,Result.andThen_ok,Sem.run_pure]
  | some p=>obtain⟨a,b⟩:=p; simp only[Sem.run_bind,Result.andThen_ok,Sem.run_pure]
 rw[key',ny (ks:=r.ks) (nk:=nk) (va:=va)]
 rw[hmx]
 unfold dj
 cases hx:L[L.findIdx (cP key)]? with
 | none=>
   simp only[Option.map_none,Option.isSome_none,Sem.run_bind,hz,Result.andThen_ok,Sem.run_pure]
   rw[List.getD_eq_getElem?_getD,hx,hz2]
   rfl
 | some x=>
   have hxm:x∈L:=List.mem_of_getElem? hx
   simp only[Option.map_some,Option.isSome_some,Sem.run_bind,Result.andThen_ok,Sem.run_pure]
   rw[List.getD_eq_getElem?_getD,hx]
   simp only[Option.getD_some]
   rw[dy nk (hL x hxm)]
theorem rM {j:J} {ok va:Bool} {cs:List C} {has:E} {vals:List Value} (hd:denL ρ j cs=some vals) (hl:va=false→cs.length=1):(qr ok va cs has).den ρ j=some (if ok=true then .tuple #[aO va vals,.bool (has.B ρ)] else aO va vals):=by
 have one:va=false→∃c v,cs=[c]∧vals=[v]∧c.den ρ j=some v:=by
  intro hva
  have:=hl hva
  match cs,this with
  | [c],_=>
    simp only[denL] at hd
    cases hc:c.den ρ j with
    | none=>rw[hc] at hd; cases hd
    | some v=>rw[hc] at hd; cases hd; exact⟨c,v,rfl,rfl,hc⟩
 have hb:(C.bool has).den ρ j=some (.bool (has.B ρ)):=rfl
 unfold qr
 cases ok with
 | true=>
   simp only[if_true]
   cases va with
   | true=>simp[V.den,aT,den0,hd,hb,aO]
   | false=>
     obtain⟨c,v,rfl,rfl,hc⟩:=one rfl
     simp[V.den,aT,den0,hc,hb,aO]
 | false=>
   cases va with
   | true=>simp[V.den,hd,aO]
   | false=>
     obtain⟨c,v,rfl,rfl,hc⟩:=one rfl
     simp[V.den,hc,aO]
theorem yu (hT:∀t i,(t,i)∈cx.ty→TIok P t i) {et:Nat} {ei:TI} (hei:af et cx.ty=some ei) (h:ei.agg=false):ei.zero.length=1:=by
 have te:=hT _ _ (ab hei)
 obtain⟨z,hz,hzd⟩:=te.zero
 have h2:=(te.zsh z hz).2 h
 have h3:=hzd ⟨fun _=>0,fun _=>false,fun _=>[]⟩ J.zero
 have h4:=au h3
 rw[h2] at h4
 simpa using h4.symm
theorem rW {i ki ei:TI} {r:RowOb} {nk t:Nat} {ka va:Bool} {kv:V} (hf:di i r nk ka va ki ei kv t=true):ei.agg=va∧(r.ks.drop nk).length=ei.zero.length:=by
 unfold di at hf
 simp only[Bool.and_eq_true,beq_iff_eq] at hf
 obtain⟨f1,f2,f3,f4,f5,f6,f7,f8,f9⟩:=hf
 refine⟨f4,?_⟩
 split at f9
 ·rename_i a b ha hb
  have hks:=aP f9
  have hn:nk=kv.cells.length:=Nat.eq_of_beq_eq_true f8
  have hal:a.length=nk:=by rw[cC ha,hn,cj f6]
  rw[hks,←hal,List.drop_left' rfl,cC hb]
 ·cases f9
theorem qY (hT:∀t i,(t,i)∈cx.ty→TIok P t i) {t kt et nk id:Nat} {x y:Operand} {ok:Bool} {kw:Kw} (hop:o.op=.lookup t x y ok) {kv:V} (hx:vw.ev x=some (.one (.mp id))) (hy:vw.ev y=some kv) {i ki ei:TI} (hi:af t cx.ty=some i) (hm:i.mapt=some (kt,et)) {r:RowOb} {ka va:Bool} (hr:vw.mw id=some (r,nk,ka,va))
  (hki:af kt cx.ty=some ki) (hei:af et cx.ty=some ei) {key:E} (hkey:rowE kw.vk (r.ks.take nk) kv.cells=some key) (hf:di i r nk ka va ki ei kv t=true)
  (h:(k {val:=qr ok va (cg r.l (jI r.l key) nk (r.ks.drop nk)) (mkLt (jI r.l key) (aB r.l)),rr:=[id]} kw).holds sp G ρ I) (hg:Good sp cx.sm ρ kw):Sound P sp ρ G I base cx vw o k kw:=by
 refine⟨_,kw,h,hg,.refl _,OpOk.pure fun j a w _ hev _ hrr _=> ?_⟩
 obtain⟨hr1,hr2⟩:=Vw.mw_some hr
 obtain⟨s,hs,hok⟩:=hrr id (by simp) r hr1
 obtain⟨g,h1,h2,h3,h4,h5,h6⟩:=hok.1.map hr2
 have hdx:=zL hs (hev x (by simp[hop,Op.operands]) _ hx)
 have hdy:=hev y (by simp[hop,Op.operands]) _ hy
 obtain⟨kvals,hkv,hF⟩:=vy hT hg.vk hi hm hki hei hkey hf hdy
 have hrun:=lr hF h4.row h3 ok
 refine⟨_,rM (cW _ _) (fun hva=> ?_),?_⟩
 ·rw[bj]
  obtain⟨e1,e2⟩:=rW hf
  rw[e2]
  exact yu hT hei (by rw[e1,hva])
 ·simp only[execOp,hop,hdx,SV.mv,h1,Option.map_some,Sem.run_bind,hrun,Result.andThen_ok,Sem.run_pure,oI,aA,ay]
theorem vE {ks:List CE} {nk:Nat} {ka va:Bool} (L:List (List Int)) (r:List Int):(aR ks nk ka va 0 L).toArray.push (entV ks nk ka va L.length r)=(aR ks nk ka va 0 (L++[r])).toArray:=by
 rw[List.push_toArray]
 congr 1
 apply List.ext_getElem?
 intro m
 rw[bh]
 rcases Nat.lt_trichotomy m L.length with h | h | h
 ·rw[List.getElem?_append_left (by rw[bY]; exact h),bh,List.getElem?_append_left h]
 ·subst h
  rw[List.getElem?_append_right (by rw[bY]; omega),bY,List.getElem?_append_right (Nat.le_refl _)]
  simp
 ·rw[List.getElem?_eq_none (by rw[List.length_append,bY]; simp; omega),List.getElem?_eq_none (by rw[List.length_append]; simp; omega)]
  rfl
theorem xp {ks:List CE} {nk:Nat} {ka va:Bool} (L:List (List Int)) (n:Nat) (r:List Int) (K V:Value) (hK:K=aO ka ((rowV ks r).take nk)) (hV:V=aO va ((rowV ks r).drop nk)):
  (aR ks nk ka va 0 L).toArray.modify n (fun e=>{e with key:=K,val:=V})=(aR ks nk ka va 0 (L.set n r)).toArray:=by
 rw[List.modify_toArray]
 congr 1
 apply List.ext_getElem?
 intro m
 rw[bh,List.getElem?_modify,bh,List.getElem?_set]
 by_cases h:n=m
 ·subst h
  rw[if_pos rfl]
  rcases Nat.lt_or_ge n L.length with hl | hl
  ·rw[if_pos hl,List.getElem?_eq_getElem hl]
   simp[entV,hK,hV]
  ·rw[if_neg (by omega),List.getElem?_eq_none hl]
   rfl
 ·rw[if_neg h]
  cases L[m]? <;>simp[h]
theorem ln {w:World} {t kt et nk g:Nat} {i ki ei:TI} {r:RowOb} {ka va:Bool} {K V:Value} {kvals zvals:List Value} {key row:List Int} (hF:Fits P ρ i r nk ka va ki ei kt et t K kvals key) {L:List (List Int)} (hL:∀x∈L,ah r.ks x=true) (hw:w.heap[g]? =some (.map (aR r.ks nk ka va 0 L).toArray L.length))
  (hrow:kvals++zvals=rowV r.ks row) (hlen:kvals.length=nk) (hV:V=aO va zvals):
  (Instr.mapUpdate t (.map (some g)) K V).run P w=.ok () (setBlock w g (.map (aR r.ks nk ka va 0 (if decide (mixI L key<(L.length:Int))=true then L.set (mixI L key).toNat row else L++[row])).toArray (if decide (mixI L key<(L.length:Int))=true then L.set (mixI L key).toNat row else L++[row]).length)):=by
 have hmx:(mixI L key).toNat=L.findIdx (cP key):=by
  unfold mixI
  rw[show(fun r:List Int=>r.take key.length==key)=cP key from rfl]; simp
 have hfd:=hF.find L hL w
 have k1:K=aO ka ((rowV r.ks row).take nk):=by rw[←hrow,←hlen,List.take_left' rfl]; exact hF.kval
 have v1:V=aO va ((rowV r.ks row).drop nk):=by rw[←hrow,←hlen,List.drop_left' rfl]; exact hV
 rw[hmx,ny (ks:=r.ks) (nk:=nk) (va:=va)]
 have key':∀q,dj r.ks nk va key 0 L=q→(Instr.mapUpdate t (.map (some g)) K V).run P w=((match q with
   | some (i,_)=>do
     let key ←Instr.keyThatStays ((((aR r.ks nk ka va 0 L).toArray[i]?).map (·.key)).getD K) K
     setObj g (.map ((aR r.ks nk ka va 0 L).toArray.modify i fun e=>{e with key,val:=V}) L.length)
   | none=>setObj g (.map ((aR r.ks nk ka va 0 L).toArray.push {key:=K,val:=V,born:=L.length}) (L.length+1)):Sem Unit)).run P w:=by
  intro q hq
  unfold Instr.mapUpdate
  simp only[Sem.run_bind,run_underlying hF.und,Result.andThen_ok,gn hw,hF.chk,hfd,hq]
  cases q with
  | none=>rfl
  | some p=>obtain⟨a,b⟩:=p; simp only[Sem.run_bind]
 cases hx:L[L.findIdx (cP key)]? with
 | none=>
   have hq:dj r.ks nk va key 0 L=none:=by unfold dj; rw[hx]; rfl
   rw[key' _ hq,hq]
   simp only[Option.isSome_none,Bool.false_eq_true,if_false]
   rw[jS hw,List.length_append]
   rw[show({key:=K,val:=V,born:=L.length}:MapEntry)=entV r.ks nk ka va L.length row by unfold entV; rw[←k1,←v1],vE]
   rfl
 | some x=>
   have hxm:x∈L:=List.mem_of_getElem? hx
   have hlt:=(List.getElem?_eq_some_iff.1 hx).1
   have hq:dj r.ks nk va key 0 L=some (0+L.findIdx (cP key),aO va ((rowV r.ks x).drop nk)):=by unfold dj; rw[hx]; rfl
   have hik:cP key x=true:=by
    have h1:=List.findIdx_getElem (w:=hlt)
    rw[(List.getElem?_eq_some_iff.1 hx).2] at h1
    exact h1
   have hke:(((aR r.ks nk ka va 0 L).toArray[0+L.findIdx (cP key)]?).map (·.key)).getD K=K:=by
    rw[Nat.zero_add]
    have e1:(aR r.ks nk ka va 0 L).toArray[L.findIdx (cP key)]? =some (entV r.ks nk ka va (0+L.findIdx (cP key)) x):=by
     rw[List.getElem?_toArray,bh,hx]; rfl
    rw[e1]
    show aO ka ((rowV r.ks x).take nk)=K
    rw[hF.kval,hF.kk,iS]
    have:x.take nk=key:=by
     have:=hik
     unfold cP at this
     rw[hF.len] at this
     exact eq_of_beq this
    rw[this]
   rw[key' _ hq,hq]
   simp only[Option.isSome_some,if_true,hke]
   have hst:(Instr.keyThatStays K K).run P w=.ok K w:=by
    unfold Instr.keyThatStays
    rw[if_pos hF.bits]
    rfl
   simp only[Sem.run_bind,hst,Result.andThen_ok]
   rw[jS hw,Nat.zero_add,xp L _ row K V k1 v1,List.length_set]
theorem kV (hT:∀t i,(t,i)∈cx.ty→TIok P t i) {t kt et nk id:Nat} {x y z:Operand} {kw:Kw} (hop:o.op=.mapUpdate t x y z) {kv zv:V} (hx:vw.ev x=some (.one (.mp id))) (hy:vw.ev y=some kv) (hz:vw.ev z=some zv) {i ki ei:TI} (hi:af t cx.ty=some i) (hm:i.mapt=some (kt,et)) {r:RowOb} {ka va:Bool} (hr:vw.mw id=some (r,nk,ka,va))
  (hki:af kt cx.ty=some ki) (hei:af et cx.ty=some ei) {key row:E} (hkey:rowE kw.vk (r.ks.take nk) kv.cells=some key) (hrow:rowE kw.vk r.ks (kv.cells++zv.cells)=some row) (hf:di i r nk ka va ki ei kv t=true) (hza:vZ va zv=true)
  (h:(decK (mkLt (jI r.l key) (aB r.l)) (fun b kw=>if b then
       k {val:=.one .undef,rr:=[id],re:=.set id {r with l:=.lput r.l (jI r.l key) row}} kw
      else decK (mkLt (aB r.l) (.lit bigB)) (fun b kw=>if b then k {val:=.one .undef,rr:=[id],re:=.set id {r with l:=.lapp r.l row}} kw else .stuck 130) kw) kw).holds sp G ρ I) (hg:Good sp cx.sm ρ kw):Sound P sp ρ G I base cx vw o k kw:=by
 obtain⟨hr1,hr2⟩:=Vw.mw_some hr
 have main:∀(l':E) (kw':Kw),KwGe kw' kw→Good sp cx.sm ρ kw'→l'.R ρ=(if decide (mixI (r.l.R ρ) (key.L ρ)<((r.l.R ρ).length:Int))=true then(r.l.R ρ).set (mixI (r.l.R ρ) (key.L ρ)).toNat (row.L ρ) else r.l.R ρ++[row.L ρ])→(RowsIn r.ks (r.l.R ρ)→(l'.R ρ).length≤maxLen)→
   (k {val:=.one .undef,rr:=[id],re:=.set id {r with l:=l'}} kw').holds sp G ρ I→Sound P sp ρ G I base cx vw o k kw:=by
  intro l' kw' hlv hg' hl hlen hh
  refine⟨_,kw',hh,hg',hlv,fun j a w hb hev hrd hwr hrr hfb K Q hK=> ?_⟩
  obtain⟨s,hs,hok⟩:=hrr id (by simp) r hr1
  obtain⟨g,h1,h2,h3,h4,h5,h6⟩:=hok.1.map hr2
  have hdx:=zL hs (hev x (by simp[hop,Op.operands]) _ hx)
  have hdy:=hev y (by simp[hop,Op.operands]) _ hy
  have hdz:=hev z (by simp[hop,Op.operands]) _ hz
  obtain⟨kvals,hkv,hF⟩:=vy hT hg.vk hi hm hki hei hkey hf hdy
  have hzf:zv.flat=true:=by cases zv<;>first | rfl | (cases hza)
  have hzv:=V.cells_ok hdz hzf
  obtain⟨e1,e2⟩:=gq hg.vk hrow (cE hkv hzv)
  have hkl:kvals.length=nk:=by
   rw[au hkv]
   unfold di at hf
   simp only[Bool.and_eq_true] at hf
   exact(Nat.eq_of_beq_eq_true hf.2.2.2.2.2.2.2.1).symm
  have hrun:=ln hF h4.row h3 e1 hkl (xZ hdz hza hzv)
  rw[←hl] at hrun
  have hlt:=(Array.getElem?_eq_some_iff.1 h3).1
  refine pm (w':=setBlock w g (.map (aR r.ks nk ka va 0 (l'.R ρ)).toArray (l'.R ρ).length)) ?_ (hK _ j _ rfl ⟨rfl,s,hs,?_,xY (g:=g) hr2 h6 h1 h2 (iE hlt _) ⟨fun q hq=> ?_,hlen h4⟩ h5⟩)
  ·simp only[execOp,hop,hdx,SV.mv,h1,Option.map_some,Sem.run_bind,hrun,Result.andThen_ok,Sem.run_pure]
  ·have:s.v.ownBlock=some g:=by simp[SV.v,h1,Value.ownBlock]
   rw[this]
   exact eE w g _
  ·simp only at hq
   rw[hl] at hq
   split at hq
   ·rcases List.mem_or_eq_of_mem_set hq with hq | rfl
    ·exact h4.row q hq
    ·exact e2
   ·rcases List.mem_append.1 hq with hq | hq
    ·exact h4.row q hq
    ·rw[List.mem_singleton.1 hq]; exact e2
 obtain⟨kw1,g1,q1,_,l1⟩:=ak _ _ _ h hg
 rw[aA,oI,ay] at g1
 split at g1
 ·rename_i hlt
  refine main _ kw1 l1 q1 ?_ (fun h4=> ?_) g1
  ·simp only[E.R,oI]
   rw[if_pos hlt]
  ·simp only[E.R,List.length_set]; exact h4.len
 ·rename_i hlt
  obtain⟨kw2,g2,q2,_,l2⟩:=ak _ _ _ g1 q1
  rw[aA,ay] at g2
  split at g2
  ·rename_i hbig
   refine main _ kw2 (l2.trans l1) q2 ?_ (fun h4=> ?_) g2
   ·simp only[E.R]
    rw[if_neg hlt]
   ·have:=of_decide_eq_true hbig
    simp only[E.I,bigB] at this
    simp only[E.R,List.length_append,List.length_singleton,maxLen]
    omega
  ·exact g2.elim
theorem tC (hT:∀t i,(t,i)∈cx.ty→TIok P t i) {t kt et nk id:Nat} {x:Operand} {kw:Kw} (hop:o.op=.range t x) (hx:vw.ev x=some (.one (.mp id))) {i:TI} (hi:af t cx.ty=some i) (hm:i.mapt=some (kt,et)) {r:RowOb} {ka va:Bool} (hr:vw.mw id=some (r,nk,ka,va)) (hne:Nat.beq id vw.nid=false)
  (h:(k {val:=.one (.itp vw.nid id),rr:=[id],re:=.mk [⟨[some .i64],t,.lnil,true,.it id (aB r.l)⟩]} kw).holds sp G ρ I) (hg:Good sp cx.sm ρ kw):Sound P sp ρ G I base cx vw o k kw:=by
 refine⟨_,kw,h,hg,.refl _,fun j a w hb hev hrd hwr hrr hfb K Q hK=> ?_⟩
 obtain⟨hr1,hr2⟩:=Vw.mw_some hr
 obtain⟨s,hs,hok⟩:=hrr id (by simp) r hr1
 obtain⟨g,h1,h2,h3,h4,h5,h6⟩:=hok.1.map hr2
 have hdx:=zL hs (hev x (by simp[hop,Op.operands]) _ hx)
 have hx':Ext w (w.alloc (.mapIter (some g) (r.l.R ρ).length #[] (r.l.R ρ).length)):=(Ext.refl w).alloc _
 have hid:id≠vw.nid:=fun e=>by rw[e] at hne; simp at hne
 have hden:(V.one (.itp vw.nid id)).den ρ (j.putL vw.nid [⟨some ⟨w.heap.size,0,none⟩,g,1,[]⟩])=some (.pointer (some ⟨w.heap.size,0,none⟩)):=by
  have e1:(j.putL vw.nid [⟨some ⟨w.heap.size,0,none⟩,g,1,[]⟩]).s vw.nid=some ⟨some ⟨w.heap.size,0,none⟩,g,1,[]⟩:=by simp[J.putL]
  have e2:(j.putL vw.nid [⟨some ⟨w.heap.size,0,none⟩,g,1,[]⟩]).s id=some s:=by
   simp only[J.putL]
   split
   ·have:id-vw.nid≠0:=by omega
    rw[List.getElem?_eq_none (by simp; omega)]
    exact hs
   ·exact hs
  show(C.itp vw.nid id).den ρ _=_
  simp only[C.den,e1,e2,Option.bind_some,h1,if_true,SV.pv,Option.map_some]
 refine bf (w':=w.alloc (.mapIter (some g) (r.l.R ρ).length #[] (r.l.R ρ).length)) (v:=.pointer (some ⟨w.heap.size,0,none⟩)) ?_ (hK _ (j.putL vw.nid [⟨some ⟨w.heap.size,0,none⟩,g,1,[]⟩]) _ hden (ji hx' (HdOk.row ⟨rfl,⟨by simp[E.R],by simp[E.R]⟩,rfl,w.heap.size,_,rfl,Nat.le_refl _,heap_alloc_new _ _,?_⟩ rfl) rfl rfl))
 ·simp[execOp,hop,hdx,SV.mv,h1,Instr.range,newObj,Sem.run_bind,Sem.run,run_underlying (hT _ _ (ab hi) |>.mapt _ _ hm),gn h3]
 ·refine⟨rfl,?_,by simp[E.R],by simp[E.R]⟩
  simp[ay,E.R,idxs]
theorem tL (hT:∀t i,(t,i)∈cx.ty→TIok P t i) {nk id mid:Nat} {x:Operand} {kw:Kw} (hop:o.op=.entry x) (hx:vw.ev x=some (.one (.itp id mid))) {q r:RowOb} {n:E} {ka va:Bool} (hq:vw.iw id=some (q,mid,n)) {sl iv:E} (hql:q.l=.lapp sl (.cons iv .nil)) (hr:vw.mw mid=some (r,nk,ka,va)) (hn:n.same (aB r.l)=true)
  (h:(k {val:=.tup [(ka,cg r.l iv 0 (r.ks.take nk)),(va,cg r.l iv nk (r.ks.drop nk))],rr:=[id,mid]} kw).holds sp G ρ I) (hg:Good sp cx.sm ρ kw) (hka:ka=false→nk=1) (hva:va=false→(r.ks.drop nk).length=1) (hnk:nk≤r.ks.length):Sound P sp ρ G I base cx vw o k kw:=by
 refine⟨_,kw,h,hg,.refl _,OpOk.pure fun j a w _ hev _ hrr _=> ?_⟩
 obtain⟨hq1,hq2⟩:=Vw.iw_some hq
 obtain⟨hr1,hr2⟩:=Vw.mw_some hr
 obtain⟨s,m,hs,hm',hsm,hv⟩:=nE (ρ:=ρ) (hev x (by simp[hop,Op.operands]) _ hx)
 obtain⟨s1,hs1,hok1⟩:=hrr id (by simp) q hq1
 rw[hs] at hs1; cases hs1
 obtain⟨s2,hs2,hok2⟩:=hrr mid (by simp) r hr1
 rw[hm'] at hs2; cases hs2
 obtain⟨g,h1,h2,h3,h4,h5,h6⟩:=hok2.1.map hr2
 have hd:=hok1.1.2.1 (by rw[hq2]; rfl)
 obtain⟨gi,ob,i1,i2,i3,i4⟩:=hd.at'
 unfold obOf at i4
 rw[hq2] at i4
 obtain⟨hks,rfl,hnd,hin⟩:=i4
 rw[hsm] at h1; cases h1
 have hL:q.l.R ρ=sl.R ρ++[[iv.I ρ]]:=by rw[hql]; rfl
 rw[hL] at hin i3
 have hiv:=hin [iv.I ρ] (by simp)
 simp only[List.getD_cons_zero] at hiv
 rw[E.same_eq hn,ay] at hiv
 have hit:idxs (sl.R ρ++[[iv.I ρ]])=idxs (sl.R ρ)++[(iv.I ρ).toNat]:=by simp[idxs]
 rw[hit] at i3
 have i5:w.heap[gi]? =some (.mapIter (some s.n) (n.I ρ).toNat ((idxs (sl.R ρ)).toArray.push (iv.I ρ).toNat) (n.I ρ).toNat):=by rw[i3]; simp
 obtain⟨x0,hx0⟩:∃x0,(r.l.R ρ)[(iv.I ρ).toNat]? =some x0:=⟨_,List.getElem?_eq_getElem (by omega)⟩
 have hx0m:x0∈r.l.R ρ:=List.mem_of_getElem? hx0
 have hxin:=h4.row x0 hx0m
 have hent:(aR r.ks nk ka va 0 (r.l.R ρ))[(iv.I ρ).toNat]? =some (entV r.ks nk ka va (iv.I ρ).toNat x0):=by rw[bh,hx0]; simp
 have hborn:((aR r.ks nk ka va 0 (r.l.R ρ)).toArray.toList.map (·.born)).Nodup:=by
  have:∀(L:List (List Int)) (i:Nat),(aR r.ks nk ka va i L).map (·.born)=List.range' i L.length:=by
   intro L
   induction L with
   | nil=>intro i; rfl
   | cons y L ih=>intro i; simp only[aR,List.map_cons,ih,entV,List.length_cons,List.range'_succ]
  simp only[this]
  exact List.nodup_range'
 have hnn:(n.I ρ).toNat=(r.l.R ρ).length:=by rw[E.same_eq hn,ay]; simp
 have hrun:=run_entry_at (P:=P) w gi s.n (n.I ρ).toNat (idxs (sl.R ρ)).toArray (aR r.ks nk ka va 0 (r.l.R ρ)).toArray (r.l.R ρ).length (entV r.ks nk ka va (iv.I ρ).toNat x0) (by rw[i5,hnn]; rfl) h3 (List.mem_of_getElem? hent) hborn
 refine⟨.tuple #[(entV r.ks nk ka va (iv.I ρ).toNat x0).key,(entV r.ks nk ka va (iv.I ρ).toNat x0).val],?_,?_⟩
 ·have d1:denL ρ j (cg r.l iv 0 (r.ks.take nk))=some ((rowV r.ks x0).take nk):=by rw[cW,List.getD_eq_getElem?_getD,hx0]; simp only[Option.getD_some]; rw[fX nk hxin]
  have d2:denL ρ j (cg r.l iv nk (r.ks.drop nk))=some ((rowV r.ks x0).drop nk):=by rw[cW,List.getD_eq_getElem?_getD,hx0]; simp only[Option.getD_some]; rw[dy nk hxin]
  have one:∀(b:Bool) (cs:List C) (vals:List Value),denL ρ j cs=some vals→(b=false→cs.length=1)→den0 ρ j (b,cs)=some (aO b vals):=by
   intro b cs vals hd hl
   cases b with
   | true=>simp[den0,hd,aO]
   | false=>
     have:=hl rfl
     match cs,this with
     | [c],_=>
       simp only[denL] at hd
       cases hc:c.den ρ j with
       | none=>rw[hc] at hd; cases hd
       | some v=>rw[hc] at hd; cases hd; simp[den0,hc,aO]
  have p1:=one ka _ _ d1 (fun e=>by rw[bj,List.length_take,hka e]; have:=hka e; omega)
  have p2:=one va _ _ d2 (fun e=>by rw[bj]; exact hva e)
  simp only[V.den,aT,p1,p2,Option.map_some]
  rfl
 ·simp only[execOp,hop,hv,SV.pv,i1,Option.map_some,Sem.run_bind,hrun,Result.andThen_ok,Sem.run_pure]
end
end Go.Proofs.Ytghiofgomcihcaa
