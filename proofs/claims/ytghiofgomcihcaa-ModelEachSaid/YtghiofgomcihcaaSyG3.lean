import Derived.Test.YtghiofgomcihcaaSyZg
set_option linter.unusedVariables false
set_option linter.unusedSimpArgs false
namespace Go.Proofs.Ytghiofgomcihcaa
open Go.RowKit
section
variable {P:Program} {sp:Spec} {ρ:Env} {G:Env→E→Prop} {I:Nat→List Dt→Prop} {base:Nat} {cx:Cx} {vw:Vw} {o:Oper} {k:Eff→Kw→Tr}
theorem gF {j:J} {id:Nat} {s:SV} {v:Value} (hs:j.s id=some s) (h:(V.one (.sl id)).den ρ j=some v):v=s.v:=by
 simp only[V.den,C.den,hs,Option.map_some,Option.some.injEq] at h
 exact h.symm
theorem iv {j:J} {v:Value} (h:(V.one .nsl).den ρ j=some v):v=.slice none 0 0:=(Option.some.inj h).symm
theorem nU {w:World} {t et esz:Nat} (hu:P.underlying t=some (.slice et)) (hs:(sizeOf et).run P w=.ok esz w) (s:SV) (l h:Nat) (low high:Option Value) (hl:(low=none∧l=0)∨∃kd:IntKind,low=some (.int kd (l:Int))) (hh:(high=none∧h=s.n)∨∃kd:IntKind,high=some (.int kd (h:Int))) (h1:l≤h) (h2:h≤s.n) (h3:s.n≤s.c):
  (Instr.sliceAt t s.v low high none).run P w=.ok (⟨if s.c=l then s.a else s.a.map (·.add (l*esz)),h-l,s.c-l,[]⟩:SV).v w:=by
 have sb:∀(kd:IntKind) (m y:Nat) code,m≤y→(Instr.sliceBound (.int kd (m:Int)) y code).run P w=.ok m w:=fun kd m y code hmy=>by
  have h5:(m:Int)≤(y:Int):=by omega
  simp[Instr.sliceBound,asIntOf,Sem.run_bind,hmy]
 have b1:(Instr.sliceBounds true s.n s.c low high none).run P w=.ok (l,h,s.c) w:=by
  rcases hl with⟨rfl,rfl⟩ | ⟨kd,rfl⟩<;>rcases hh with⟨rfl,rfl⟩ | ⟨kd',rfl⟩
  ·simp[Instr.sliceBounds,Sem.run_bind]
  ·simp[Instr.sliceBounds,Sem.run_bind,sb kd' h s.c _ (by omega)]
  ·simp[Instr.sliceBounds,Sem.run_bind,sb kd l s.n _ (by omega)]
  ·simp[Instr.sliceBounds,Sem.run_bind,sb kd l h _ (by omega),sb kd' h s.c _ (by omega)]
 simp[Instr.sliceAt,Instr.slice,SV.v,run_underlying hu,Sem.run_bind,b1,hs]
theorem oQ {s:SV} {l h esz:Nat}:∀k,(⟨if s.c=l then s.a else s.a.map (·.add (l*esz)),h-l,s.c-l,[]⟩:SV).blk false=some k→s.blk false=some k:=by
 intro k hk
 have hc:s.c≠0:=fun hc=>by
  unfold SV.blk at hk
  simp[hc] at hk
 refine kx hc ?_
 have hk:=ap hk
 obtain⟨a,n,c,z⟩:=s
 simp only[SV.v] at hk ⊢
 split at hk
 ·cases a<;>simp_all [Value.ownBlock]
 ·cases a with
  | none=>simp[Value.ownBlock] at hk
  | some a=>
    simp only[Option.map_some,Value.ownBlock,Option.some.injEq] at hk ⊢
    rw[←hk]
    unfold Addr.add
    split<;>rfl
theorem abM {w:World} {s:SV} {r q:RowOb} {l h:Nat} (hok:SlOk ρ base w s r) (hq:q.ks=r.ks∧q.own=false) (hL:q.l.R ρ=((r.l.R ρ).take h).drop l) (h1:l≤h) (h2:h≤s.n):
  SlOk ρ base w ⟨if s.c=l then s.a else s.a.map (·.add (l*r.ks.length)),h-l,s.c-l,[]⟩ q:=by
 obtain⟨r1,r2,r3,r4,r5⟩:=hok.rd
 have hn:=hok.n
 have hlen:(q.l.R ρ).length=h-l:=by rw[hL,List.length_drop,List.length_take]; omega
 have hrows:∀x∈q.l.R ρ,ar r.ks x=true:=fun x hx=>hok.rows.row x (by rw[hL] at hx; exact List.mem_of_mem_take (List.mem_of_mem_drop hx))
 refine⟨hlen.symm,⟨by rw[hq.1]; exact hrows,by rw[hlen]; omega⟩,by rw[hq.1]; exact hok.pos,fun k hk=> ?_,fun ho=>(by rw[hq.2] at ho; cases ho),?_⟩
 ·rw[hq.2] at hk
  exact hok.lt k (ba (oQ k hk))
 ·rw[hq.1]
  have hfl:flat r.ks (q.l.R ρ)=((flat r.ks (r.l.R ρ)).take (h*r.ks.length)).drop (l*r.ks.length):=by
   rw[gm h hok.rows.row,gn l (fun x hx=>hok.rows.row x (List.mem_of_mem_take hx)),hL]
  refine⟨by rw[aL hrows,hlen],by simp only; omega,by simp only; omega,fun ha=> ?_,fun a ha i u hi=> ?_⟩
  ·simp only at ha ⊢
   split at ha
   ·have:=r4 ha; omega
   ·rw[Option.map_eq_none_iff] at ha
    have:=r4 ha; omega
  ·simp only at ha
   have hlt:i<(flat r.ks (q.l.R ρ)).length:=(List.getElem?_eq_some_iff.1 hi).1
   rw[aL hrows,hlen] at hlt
   split at ha
   ·rename_i hc
    have:h-l=0:=by omega
    rw[this] at hlt
    omega
   ·rw[Option.map_eq_some_iff] at ha
    obtain⟨a0,ha0,rfl⟩:=ha
    rw[aX]
    refine r5 a0 ha0 _ u ?_
    rw[hfl,List.getElem?_drop,List.getElem?_take] at hi
    split at hi
    ·exact hi
    ·cases hi
theorem SlOk.shut {w:World} {s:SV} {r:RowOb} (h:SlOk ρ base w s r):SlOk ρ base w s {r with own:=false}:=⟨h.n,h.rows,h.pos,fun k hk=>h.lt k (ba hk),fun ho=>(by cases ho),h.rd⟩
theorem o6 (hT:∀t i,(t,i)∈cx.ty→TIok P t i) {t:Nat} {x:Operand} {lo hi':Option Operand} {kw:Kw} (hop:o.op=.slice t x lo hi' none) {id:Nat} (hx:vw.ev x=some (.one (.sl id))) {i:TI} (hi:af t cx.ty=some i) {et:Nat} (ha:i.sle=some et) {ie:TI} (hie:af et cx.ty=some ie)
  {r:RowOb} (hr:vw.sw id=some r) (hks:r.ks.length=ie.size) {L H:Nat}
  (hlo:(lo=none∧L=0)∨∃y kd e,lo=some y∧vw.ev y=some (.one (.int kd e))∧e.I ρ=(L:Int)) (hhi:(hi'=none∧H=(r.l.R ρ).length)∨∃y kd e,hi'=some y∧vw.ev y=some (.one (.int kd e))∧e.I ρ=(H:Int))
  {l':E} (hl':l'.R ρ=((r.l.R ρ).take H).drop L) (hLH:L≤H∧H≤(r.l.R ρ).length)
  (h:(k {val:=.one (.sl vw.nid),rr:=[id],re:=.view id {r with own:=false} ⟨r.ks,et,l',false,.sl⟩} kw).holds sp G ρ I) (hg:Good sp cx.sm ρ kw):Sound P sp ρ G I base cx vw o k kw:=by
 refine⟨_,kw,h,hg,.refl _,fun j a w hbw hev hrd hwr hrr hfb K Q hK=> ?_⟩
 obtain⟨s,hs,hok⟩:=hrr.sl id (by simp) r hr
 have hd:=gF hs (hev x (by simp[hop,Op.operands]) _ hx)
 have hu:=(hT _ _ (ab hi)).sle et ha
 have hsz:=(hT _ _ (ab hie)).size w
 rw[←hks] at hsz
 have hn:=hok.n
 have hl1:(lo.map a.eval=none∧L=0)∨∃kd:IntKind,lo.map a.eval=some (.int kd (L:Int)):=by
  rcases hlo with⟨rfl,h0⟩ | ⟨y,kd,e,rfl,hy,he⟩
  ·exact .inl ⟨rfl,h0⟩
  ·exact .inr ⟨kd,by rw[Option.map_some,aQ (hev y (by simp[hop,Op.operands]) _ hy),he]⟩
 have hh1:(hi'.map a.eval=none∧H=s.n)∨∃kd:IntKind,hi'.map a.eval=some (.int kd (H:Int)):=by
  rcases hhi with⟨rfl,h0⟩ | ⟨y,kd,e,rfl,hy,he⟩
  ·exact .inl ⟨rfl,by rw[h0,hn]⟩
  ·exact .inr ⟨kd,by rw[Option.map_some,aQ (hev y (by simp[hop,Op.operands]) _ hy),he]⟩
 have hrun:=nU (P:=P) hu hsz s L H _ _ hl1 hh1 hLH.1 (by omega) hok.rd.2.1
 refine bs (w':=w) (v:=(⟨if s.c=L then s.a else s.a.map (·.add (L*r.ks.length)),H-L,s.c-L,[]⟩:SV).v) ?_ (hK _ (j.putS vw.nid ⟨if s.c=L then s.a else s.a.map (·.add (L*r.ks.length)),H-L,s.c-L,[]⟩) w pb ⟨rfl,s,_,hs,hok.shut.row (Vw.sw_some hr).2,(abM (q:=⟨r.ks,et,l',false,.sl⟩) hok ⟨rfl,rfl⟩ hl' hLH.1 (by omega)).row rfl,oQ,Zin.nil rfl,rfl⟩)
 simp only[execOp,hop,hd,Option.map_none,Sem.run_bind,hrun,Result.andThen_ok,Sem.run_pure]
theorem uB (hT:∀t i,(t,i)∈cx.ty→TIok P t i) {t:Nat} {x:Operand} {kw:Kw} (hop:o.op=.slice t x none none none) {id:Nat} (hx:vw.ev x=some (.one (.sl id))) {i:TI} (hi:af t cx.ty=some i) {et:Nat} (ha:i.sle=some et) {ie:TI} (hie:af et cx.ty=some ie)
  (h:(k {val:=.one (.sl id)} kw).holds sp G ρ I) (hg:Good sp cx.sm ρ kw):Sound P sp ρ G I base cx vw o k kw:=by
 refine⟨_,kw,h,hg,.refl _,OpOk.pure fun j a w _ hev _ _ _=> ?_⟩
 have hd:=hev x (by simp[hop,Op.operands]) _ hx
 refine⟨_,hd,?_⟩
 simp only[V.den,C.den,Option.map_eq_some_iff] at hd
 obtain⟨s,_,hs⟩:=hd
 have hu:=(hT _ _ (ab hi)).sle et ha
 have hsz:=(hT _ _ (ab hie)).size w
 obtain⟨sa,sn,sc,sz⟩:=s
 have e0:∀a:Addr,a.add 0=a:=fun a=>by simp[Addr.add]
 have e:(if sc=0 then sa else sa.map fun x=>x.add 0)=sa:=by
  split
  ·rfl
  ·cases sa<;>simp[e0]
 simp[execOp,hop,←hs,SV.v,Instr.sliceAt,Instr.slice,run_underlying hu,Sem.run_bind,Instr.sliceBounds,hsz,e,e0]
theorem gY {kw:Kw} {l:E} (hl:(l.R ρ).length≤maxLen):(lenE kw.vk l).I ρ=((l.R ρ).length:Int):=by
 have h:=aU ρ l
 unfold lenE
 split
 ·rename_i z hz; rw[hz] at h; exact h
 ·rename_i e hne
  split
  ·exact h
  ·show IntKind.i64.wrap _=_
   rw[h]
   refine jg ?_
   rw[aO]
   simp only[maxLen] at hl
   simp only[IntKind.min,IntKind.max,IntKind.signed,IntKind.bits]
   simp
   omega
theorem aan (hT:∀t i,(t,i)∈cx.ty→TIok P t i) {c:Call} {kw:Kw} (hop:o.op=.call c) (hc:c.callee=.builtin .len) {id t:Nat} (hl:evL vw.ev c.args.toList=some [.one (.sl id)]) (hty:c.argTypes.toList=[t]) {i:TI} (hi:af t cx.ty=some i) (hsl:i.sle.isSome=true) {r:RowOb} (hr:vw.sw id=some r)
  (h:(k {val:=.one (.int .i64 (lenE kw.vk r.l)),rr:=[id]} kw).holds sp G ρ I) (hg:Good sp cx.sm ρ kw):Sound P sp ρ G I base cx vw o k kw:=by
 refine⟨_,kw,h,hg,.refl _,OpOk.pure fun j a w _ hev _ hrr _=> ?_⟩
 obtain⟨s,hs,hok⟩:=hrr.sl id (by simp) r hr
 obtain⟨h1,h2⟩:=dE (j:=j) (a:=a) hl (fun x hx=>hev x (by simp[hop,Op.operands,Call.operands]; exact .inr (by simpa using hx)))
 have h3:c.args.map a.eval = #[s.v]:=by
  have:c.args.toList.map a.eval=[s.v]:=by
   match hm:c.args.toList.map a.eval,h2 with
   | [u],_=>rw[hm] at h1; rw[gF hs (h1 0 _ u rfl rfl)]
  rw[←Array.toArray_toList (xs:=c.args.map a.eval),Array.toList_map,this]
 obtain⟨et,het⟩:=Option.isSome_iff_exists.1 hsl
 have hu:=(hT _ _ (ab hi)).sle et het
 have hat:c.argTypes = #[t]:=by rw[←Array.toArray_toList (xs:=c.argTypes),hty]
 have hle:(r.l.R ρ).length≤maxLen:=hok.rows.len
 refine⟨.int .i64 (s.n:Int),by rw[hok.n]; simp[V.den,C.den,gY hle],?_⟩
 simp[execOp,hop,resolve,hc,h3,hat,Sem.run_bind,invoke,builtin,Builtin.len_,run_underlying hu,SV.v,goInt]
theorem xO (hT:∀t i,(t,i)∈cx.ty→TIok P t i) {c:Call} {kw:Kw} (hop:o.op=.call c) (hc:c.callee=.builtin .len) {t:Nat} (hl:evL vw.ev c.args.toList=some [.one .nsl]) (hty:c.argTypes.toList=[t]) {i:TI} (hi:af t cx.ty=some i) (hsl:i.sle.isSome=true)
  (h:(k {val:=.one (.int .i64 (.lit 0))} kw).holds sp G ρ I) (hg:Good sp cx.sm ρ kw):Sound P sp ρ G I base cx vw o k kw:=by
 refine⟨_,kw,h,hg,.refl _,OpOk.pure fun j a w _ hev _ hrr _=> ?_⟩
 obtain⟨h1,h2⟩:=dE (j:=j) (a:=a) hl (fun x hx=>hev x (by simp[hop,Op.operands,Call.operands]; exact .inr (by simpa using hx)))
 have h3:c.args.map a.eval = #[.slice none 0 0]:=by
  have:c.args.toList.map a.eval=[.slice none 0 0]:=by
   match hm:c.args.toList.map a.eval,h2 with
   | [u],_=>rw[hm] at h1; rw[iv (h1 0 _ u rfl rfl)]
  rw[←Array.toArray_toList (xs:=c.args.map a.eval),Array.toList_map,this]
 obtain⟨et,het⟩:=Option.isSome_iff_exists.1 hsl
 have hu:=(hT _ _ (ab hi)).sle et het
 have hat:c.argTypes = #[t]:=by rw[←Array.toArray_toList (xs:=c.argTypes),hty]
 refine⟨.int .i64 0,rfl,?_⟩
 simp[execOp,hop,resolve,hc,h3,hat,Sem.run_bind,invoke,builtin,Builtin.len_,run_underlying hu,goInt]
theorem zB {w:World} {base ty esz n:Nat} {v:Value} {xs:List Value} (h:w.ownsRow base ty esz v n xs):∃s:SV,v=s.v∧s.n=n∧s.z=[]:=by
 rcases h.2 with⟨rfl,rfl⟩ | ⟨g,cap,cur,rfl,_⟩
 ·exact⟨⟨none,0,0,[]⟩,rfl,rfl,rfl⟩
 ·exact⟨⟨some ⟨g,0,none⟩,n,cap,[]⟩,rfl,rfl,rfl⟩
theorem bc {w:World} {base t ty e:Nat} {inf:TypeInfo} {z:Value} (ht:P.underlying t=some (.slice e)) (hi:P.info? e=some inf) (hz:inf.zero=some z) (hzs:z.cells.size=inf.size) (hsz:0<inf.size) {v:Value} {n:Nat} {xs:List Value} (hown:w.ownsRow base e inf.size v n xs)
  {x:SV} {news:List Value} (hrd:RdRow w inf.size x news) (h1:∀u∈news,u.oneCell'=true) (h63:n+x.n≤maxLen) (hbytes:(n+x.n)*inf.bytes≤140737488355328) (hbase:base≤w.heap.size):
  ∃s' w',(Builtin.append_ #[t,t] ty #[v,x.v]).run P w=.ok (SV.v s') w'∧s'.n=n+x.n∧w'.ownsRow base e inf.size s'.v (n+x.n) (xs++news)∧w.grownBy w' v.ownBlock∧(s'.v.ownBlock=v.ownBlock∨s'.v.ownBlock=some w.heap.size)∧s'.z=[]:=by
 obtain⟨xa,xn,xc,xz⟩:=x
 cases xa with
 | none=>
   obtain⟨h2,h3⟩:=hrd.2.2.2.1 rfl
   simp only at h2 h3
   subst h2 h3
   have hnil:news=[]:=by
    have:=hrd.1
    simp only[Nat.zero_mul] at this
    exact List.eq_nil_of_length_eq_zero this
   subst hnil
   obtain⟨s,rfl,hn,hsz⟩:=zB hown
   exact⟨s,w,run_append_owned_none w base t ty e inf inf.size ht hi _ n xs hown,hn,by simpa using hown,⟨rfl,rfl,rfl,Nat.le_refl _,fun _ _ _=>rfl⟩,.inl rfl,hsz⟩
 | some a=>
   obtain⟨v',w',hr,h2,h3,_,h5⟩:=run_append_own_at (P:=P) w base t ty e inf z inf.size inf.bytes ht hi hz rfl rfl hzs hsz v n xs hown a xn xc news hrd.1 (fun j u hj=>hrd.2.2.2.2 a rfl j u hj) h1 h63 hbytes hbase
   obtain⟨s,rfl,hn,hsz⟩:=zB h2
   exact⟨s,w',hr,hn,h2,h3,h5,hsz⟩
theorem kG {c:Call} {a:Act} {j:J} {v1 v2:V} (hl:evL vw.ev c.args.toList=some [v1,v2]) (hev:∀x∈c.args.toList,∀v,vw.ev x=some v→v.den ρ j=some (a.eval x)):∃u1 u2,c.args.map a.eval = #[u1,u2]∧v1.den ρ j=some u1∧v2.den ρ j=some u2:=by
 obtain⟨h1,h2⟩:=dE (j:=j) (a:=a) hl hev
 match hm:c.args.toList.map a.eval,h2 with
 | [u1,u2],_=>
   rw[hm] at h1
   exact⟨u1,u2,by rw[←Array.toArray_toList (xs:=c.args.map a.eval),Array.toList_map,hm],h1 0 _ u1 rfl rfl,h1 1 _ u2 rfl rfl⟩
theorem xu (ρ:Env) (a b:E):(catE a b).R ρ=a.R ρ++b.R ρ:=by
 unfold catE
 split
 ·simp[E.R]
 ·split<;>simp[E.R]
theorem o9 (hT:∀t i,(t,i)∈cx.ty→TIok P t i) {c:Call} {kw:Kw} (hop:o.op=.call c) (hc:c.callee=.builtin .append) {id t:Nat} (hl:evL vw.ev c.args.toList=some [.one .nsl,.one (.sl id)]) (hty:c.argTypes.toList=[t,t]) {i:TI} (hi:af t cx.ty=some i) {et:Nat} (ha:i.sle=some et) {ie:TI} (hie:af et cx.ty=some ie)
  {r:RowOb} (hr:vw.sw id=some r) (hq:r.ty=et∧r.ks.length=ie.size∧0<ie.size∧ie.bytes≤65536)
  (h:(decK (mkLt (aY r.l) (.lit bigB)) (fun b kw=>if b then k {val:=.one (.sl vw.nid),rr:=[id],re:=.mk [⟨r.ks,et,r.l,true,.sl⟩]} kw else .panic) kw).holds sp G ρ I) (hg:Good sp cx.sm ρ kw):Sound P sp ρ G I base cx vw o k kw:=by
 obtain⟨kw1,h1,g1,_,l1⟩:=ak _ _ _ h hg
 rw[aG,aU] at h1
 split at h1
 ·rename_i hbig
  have hbig':((r.l.R ρ).length:Int)<1073741824:=of_decide_eq_true hbig
  refine⟨_,kw1,h1,g1,l1,fun j a w hb hev hrd hwr hrr hfb K Q hK=> ?_⟩
  obtain⟨s,hs,hok⟩:=hrr.sl id (by simp) r hr
  obtain⟨u1,u2,hargs,hd1,hd2⟩:=kG (j:=j) (a:=a) hl (fun x hx=>hev x (by simp[hop,Op.operands,Call.operands]; exact .inr (by simpa using hx)))
  have e1:=iv hd1
  have e2:=gF hs hd2
  subst e1 e2
  have hu:=(hT _ _ (ab hi)).sle et ha
  obtain⟨inf,z,hinf,hisz,hbytes,hz,hzl,hzd⟩:=(hT _ _ (ab hie)).info
  have hat:c.argTypes = #[t,t]:=by rw[←Array.toArray_toList (xs:=c.argTypes),hty]
  have hn:=hok.n
  have hrd':=hok.rd
  rw[hq.2.1,←hisz] at hrd'
  obtain⟨s',w',h2,h3,h4,h5,h6,h7⟩:=bc (P:=P) (base:=w.heap.size) (ty:=o.type) hu hinf hz (by rw[hisz]; simpa using hzl) (by omega) (World.ownsRow_nil w w.heap.size et inf.size) hrd' eE (by simp only[maxLen]; omega)
   (by
    have:(0+s.n)*inf.bytes≤1073741824*65536:=Nat.mul_le_mul (by omega) (by omega)
    omega) (Nat.le_refl _)
  simp only[Nat.zero_add,List.nil_append] at h3 h4
  rw[hisz,←hq.2.1,←h3] at h4
  refine bs (w':=w') (v:=s'.v) ?_ (hK _ (j.putL vw.nid [s']) _ nC (oz (Ext.of_grown h5) (RowOk.mk_own (r:=⟨r.ks,et,r.l,true,.sl⟩) rfl (by rw[h3]; exact hn) hok.rows hok.pos h4) rfl rfl))
  simp only[execOp,hop,resolve,hc,hargs,hat,Sem.run_bind,Sem.run_pure,Result.andThen_ok,invoke,builtin,h2]
 ·exact h1.elim
theorem sF (hT:∀t i,(t,i)∈cx.ty→TIok P t i) {c:Call} {kw:Kw} (hop:o.op=.call c) (hc:c.callee=.builtin .append) {old id t:Nat} (hl:evL vw.ev c.args.toList=some [.one (.sl old),.one (.sl id)]) (hty:c.argTypes.toList=[t,t]) {i:TI} (hi:af t cx.ty=some i) {et:Nat} (ha:i.sle=some et) {ie:TI} (hie:af et cx.ty=some ie)
  {r q:RowOb} (hr:vw.sw id=some r) (hrq:vw.sw old=some q) (hq:r.ty=et∧r.ks.length=ie.size∧0<ie.size∧ie.bytes≤65536) (hq2:q.own=true∧q.ty=et∧q.ks=r.ks)
  (h:(decK (cE (mkLt (aY q.l) (.lit bigB)) (mkLt (aY r.l) (.lit bigB))) (fun b kw=>if b then k {val:=.one (.sl vw.nid),rr:=[old,id],re:=.app old ⟨r.ks,et,catE q.l r.l,true,.sl⟩} kw else .panic) kw).holds sp G ρ I) (hg:Good sp cx.sm ρ kw):Sound P sp ρ G I base cx vw o k kw:=by
 obtain⟨kw1,h1,g1,_,l1⟩:=ak _ _ _ h hg
 rw[bN,aG,aG,aU,aU] at h1
 split at h1
 ·rename_i hbig
  rw[Bool.and_eq_true] at hbig
  have hb1:((q.l.R ρ).length:Int)<1073741824:=of_decide_eq_true hbig.1
  have hb2:((r.l.R ρ).length:Int)<1073741824:=of_decide_eq_true hbig.2
  refine⟨_,kw1,h1,g1,l1,fun j a w hb hev hrd hwr hrr hfb K Q hK=> ?_⟩
  obtain⟨s,hs,hok⟩:=hrr.sl id (by simp) r hr
  obtain⟨p,hp,hop'⟩:=hrr.sl old (by simp) q hrq
  obtain⟨u1,u2,hargs,hd1,hd2⟩:=kG (j:=j) (a:=a) hl (fun x hx=>hev x (by simp[hop,Op.operands,Call.operands]; exact .inr (by simpa using hx)))
  have e1:=gF hp hd1
  have e2:=gF hs hd2
  subst e1 e2
  have hu:=(hT _ _ (ab hi)).sle et ha
  obtain⟨inf,z,hinf,hisz,hbytes,hz,hzl,hzd⟩:=(hT _ _ (ab hie)).info
  have hat:c.argTypes = #[t,t]:=by rw[←Array.toArray_toList (xs:=c.argTypes),hty]
  have hn:=hok.n
  have hpn:=hop'.n
  have hown:=hop'.own hq2.1
  rw[hq2.2.1,hq2.2.2,hq.2.1,←hisz] at hown
  have hrd':=hok.rd
  rw[hq.2.1,←hisz] at hrd'
  obtain⟨s',w',h2,h3,h4,h5,h6,h7⟩:=bc (P:=P) (base:=base) (ty:=o.type) hu hinf hz (by rw[hisz]; simpa using hzl) (by omega) hown hrd' eE (by simp only[maxLen]; omega)
   (by
    have:(p.n+s.n)*inf.bytes≤2147483648*65536:=Nat.mul_le_mul (by omega) (by omega)
    omega) hb
  rw[←du,hisz,←hq.2.1,←h3] at h4
  have hR:(catE q.l r.l).R ρ=q.l.R ρ++r.l.R ρ:=xu ρ _ _
  refine bs (w':=w') (v:=s'.v) ?_ (hK _ (j.putS vw.nid s') _ pb ⟨p,s',hp,h5,RowOk.mk_own (r:=⟨r.ks,et,catE q.l r.l,true,.sl⟩) rfl ?_ ⟨fun x hx=> ?_,?_⟩ hok.pos (by simp only[hR]; exact h4),h6,Zin.nil h7,rfl⟩)
  ·simp only[execOp,hop,resolve,hc,hargs,hat,Sem.run_bind,Sem.run_pure,Result.andThen_ok,invoke,builtin,h2]
  ·simp only[hR,List.length_append]; omega
  ·simp only[hR,List.mem_append] at hx
   rcases hx with hx | hx
   ·have:=hop'.rows.row x hx; rw[hq2.2.2] at this; exact this
   ·exact hok.rows.row x hx
  ·simp only[hR,List.length_append,maxLen]; omega
 ·exact h1.elim
end
end Go.Proofs.Ytghiofgomcihcaa
