import Derived.Test.YtghiofgomcihcaaSyO
set_option linter.unusedVariables false
set_option linter.unusedSimpArgs false
namespace Go.Proofs.Ytghiofgomcihcaa
open Go.RowKit
theorem aB:∀{z z':List C} {vs:List Value},bv z z'=true→aD vs z→aD vs z'
 | [],[],vs,_,h=>h
 | .int k a::l,.int k' b::r,vs,hk,h=>by
   simp only[bv,Bool.and_eq_true] at hk
   obtain⟨x,us,rfl,h1,h2⟩:=aq h
   exact⟨ao hk.1,h1,aB hk.2 h2⟩
 | .bool a::l,.bool b::r,vs,hk,h=>by
   simp only[bv] at hk
   obtain⟨x,us,rfl,h2⟩:=bB h
   exact aB (z:=l) (z':=r) hk h2
def bD:List Value→List Lit
 | .int k x::l=>.int k x::bD l
 | .bool b::l=>.bool b::bD l
 | _=>[]
theorem my:∀{z:List C} {vs us:List Value},aD vs z→aD us z→(eqVs vs us=true↔bD vs=bD us)
 | [],vs,us,h,h'=>by rw[bE h,bE h']; simp[eqVs]
 | .int k e::r,vs,us,h,h'=>by
   obtain⟨x,l,rfl,_,h2⟩:=aq h
   obtain⟨y,m,rfl,_,g2⟩:=aq h'
   simp[eqVs,bD,my h2 g2]
 | .bool e::r,vs,us,h,h'=>by
   obtain⟨x,l,rfl,h2⟩:=bB h
   obtain⟨y,m,rfl,g2⟩:=bB h'
   simp[eqVs,bD,my h2 g2]
 | .yld _::_,vs,us,h,_ | .wn _ _ _ _ _::_,vs,us,h,_ | .aw _ _ _ _ _ _ _::_,vs,us,h,_ | .str _::_,vs,us,h,_ | .pe _ _ _ _ _ _::_,vs,us,h,_ | .nmp::_,vs,us,h,_ | .mp _::_,vs,us,h,_ | .itp _ _::_,vs,us,h,_ | .ptr _ _::_,vs,us,h,_ | .fp _ _::_,vs,us,h,_ | .fn _::_,vs,us,h,_ | .nilp::_,vs,us,h,_ | .undef::_,vs,us,h,_ | .sl _::_,vs,us,h,_ | .ep _ _ _ _::_,vs,us,h,_ | .nsl::_,vs,us,h,_ | .nilf::_,vs,us,h,_ | .clo _ _ _::_,vs,us,h,_=>by
   cases vs with
   | nil=>exact h.elim
   | cons v l=>cases v<;>exact h.elim
theorem lw {P:Program} {t:Nat} {z:List C} (hk:P.keyTypeAt 6 t=true) (hf:∀vs,aD vs z→(Value.agg vs.toArray).formed P t=true) (D:Nat) (hl:∀vs,aD vs z→P.keyLits D t vs=some (bD vs)) (vs us:List Value) (hv:aD vs z) (hu:aD us z) (w:World):
  (Op.equal t (.agg vs.toArray) (.agg us.toArray)).run P w=.ok (eqVs vs us) w:=by
 obtain⟨r,hr,hiff⟩:=run_equalIn_deep (P:=P) 9994 6 t hk w D D (.agg vs.toArray) (.agg us.toArray) _ _ (hf vs hv) (hf us hu) (by simpa[Value.cells] using hl vs hv) (by simpa[Value.cells] using hl us hu)
 unfold Op.equal Op.maxDepth
 rw[show(10000:Nat)=9994+6 from rfl,hr]
 congr 1
 rw[Bool.eq_iff_iff,hiff,my hv hu]
theorem eY {f:Nat→TI→Bool} {l:List (Nat×TI)} (h:(l.all fun p=>f p.1 p.2)=true) {t:Nat} {i:TI} (hm:(t,i)∈l):f t i=true:=List.all_eq_true.1 h (t,i) hm
structure Ini where
 vk:List VK
 rows:List RowOb
 fb:List (List C)
def iniC (v id:Nat):CK→C×List VK×List RowOb
 | .int k=>(.int k (.var v),[.int k],[])
 | .bool=>(.bool (.bvar v),[.bool],[])
 | .fn g=>(.fn g,[],[])
 | .lit k z=>(.int k (.lit z),[],[])
 | .sl ks ty=>(.sl id,[.list ks],[⟨ks,ty,.lvar v,false,kdOf ks⟩])
 | .nilf=>(.nilf,[],[])
 | .any=>(.undef,[],[])
def iniL (v id:Nat):List CK→List C×List VK×List RowOb
 | []=>([],[],[])
 | k::ks=>let x:=iniC v id k; let y:=iniL (v+x.2.1.length) (id+x.2.2.length) ks; (x.1::y.1,x.2.1++y.2.1,x.2.2++y.2.2)
def iniA (v id fid:Nat):List Sh→List V×List VK×List RowOb×List (List C)
 | []=>([],[],[],[])
 | .one k::ss=>let x:=iniC v id k; let y:=iniA (v+x.2.1.length) (id+x.2.2.length) fid ss; (.one x.1::y.1,x.2.1++y.2.1,x.2.2++y.2.2.1,y.2.2.2)
 | .agg ks::ss=>let x:=iniL v id ks; let y:=iniA (v+x.2.1.length) (id+x.2.2.length) fid ss; (.agg x.1::y.1,x.2.1++y.2.1,x.2.2++y.2.2.1,y.2.2.2)
 | .ptr ks::ss=>let x:=iniL v id ks; let y:=iniA (v+x.2.1.length) (id+x.2.2.length) (fid+1) ss; (.one (.fp fid 0)::y.1,x.2.1++y.2.1,x.2.2++y.2.2.1,x.1::y.2.2.2)
def ckOk:CK→Bool
 | .sl ks _=>decide (0<ks.length)
 | .any=>false
 | _=>true
def acK:CK→Bool
 | .any=>true
 | k=>ckOk k
def xW:Sh→Bool
 | .ptr ks=>ks.all acK
 | s=>s.cks.all ckOk
def shOk (ss:List Sh):Bool:=ss.all xW
section
variable {P:Program} {sp:Spec} {ρ:Env} {w:World}
theorem mT {ρ:Env}:∀(a b:List VK) (v:Nat),ah ρ v (a++b)=ah ρ v a++ah ρ (v+a.length) b
 | [],b,v=>rfl
 | k::a,b,v=>by
   simp only[List.cons_append,ah,mT a b (v+1),List.length_cons]
   rw[show v+1+a.length=v+(a.length+1) by omega]
theorem io {ρ:Env}:∀(a:List VK) (v:Nat),(ah ρ v a).length=a.length
 | [],v=>rfl
 | k::a,v=>by simp[ah,io a (v+1)]
theorem rx:∀{a b:List VK} {x y:List Dt},okDs a x→okDs b y→okDs (a++b) (x++y)
 | [],b,[],y,_,h=>h
 | k::a,b,d::x,y,h,h'=>⟨h.1,rx h.2 h'⟩
 | [],b,_::_,y,h,_=>h.elim
 | k::a,b,[],y,h,_=>by cases k<;>exact h.elim
theorem rv:∀{a:List VK} {x:List Dt},okDs a x→x.length=a.length
 | [],[],_=>rfl
 | k::a,d::x,h=>by simp[rv h.2]
 | [],_::_,h=>h.elim
 | k::a,[],h=>by cases k<;>exact h.elim
theorem acL (b:Bool):b2i b=0∨b2i b=1:=by cases b<;>simp[b2i]
structure ArgOk (w:World) (v id:Nat) (vk:List VK) (rows:List RowOb) (d:List Dt) (svs:List SV) (den:Env→J→Prop):Prop where
 len:svs.length=rows.length
 zz:∀s∈svs,∀p∈s.z,w.heap[p.1]? =some p.2∧isCl p.2=true
 ok:okDs vk d
 at':∀(ρ:Env) (j:J),ah ρ v vk=d→(∀(i:Nat) s,svs[i]? =some s→j.s (id+i)=some s)→den ρ j∧∀(i:Nat) s q,svs[i]? =some s→rows[i]? =some q→q.own=false∧∀base,RowOk ρ base w s q
def evZ (w:World):List SV→List (Nat×Obj)
 | []=>[]
 | x::l=>(match x.blk false with
   | some k=>(match w.heap[k]? with | some o=>[(k,o)] | none=>[])
   | none=>[])++evZ w l
theorem zT:∀{ins:List SV},(∀x∈ins,∀k,x.blk false=some k→∃o,w.heap[k]? =some o∧isCl o=true)→∀p∈evZ w ins,w.heap[p.1]? =some p.2∧isCl p.2=true
 | [],_,p,hp=>by cases hp
 | x::l,h,p,hp=>by
   simp only[evZ,List.mem_append] at hp
   rcases hp with hp | hp
   ·cases hb:x.blk false with
    | none=>rw[hb] at hp; cases hp
    | some k=>
      obtain⟨o,h1,h2⟩:=h x List.mem_cons_self k hb
      rw[hb] at hp
      simp only[h1,List.mem_singleton] at hp
      subst hp
      exact⟨h1,h2⟩
   ·exact zT (fun y hy=>h y (List.mem_cons_of_mem _ hy)) p hp
theorem zU:∀{ins:List SV} {x:SV},x∈ins→∀p∈evZ w [x],p∈evZ w ins
 | y::l,x,h,p,hp=>by
   rcases List.mem_cons.1 h with rfl | h
   ·simp only[evZ,List.append_nil] at hp
    simp only[evZ,List.mem_append]
    exact .inl hp
   ·have:=zU h p hp
    simp only[evZ,List.mem_append]
    exact .inr this
theorem EvIn.ei {row:List Int} {x:SV} {z:List (Nat×Obj)} (h:EvIn w row x) (hz:∀p∈evZ w [x],p∈z):EiOk z row x:=by
 have blk:∀k,x.blk false=some k→∃o,(k,o)∈z∧w.heap[k]? =some o:=fun k hk=>by
  obtain⟨o,h1,h2⟩:=h.blk k hk
  exact⟨o,hz _ (by simp[evZ,hk,h1]),h1⟩
 refine⟨h.n,h.most,h.rest,fun w' hw=>h.rd.kept (fun k hk=> ?_),fun k hk=> ?_⟩
 ·obtain⟨o,h1,h2⟩:=blk k hk
  rw[h2]; exact hw _ h1
 ·obtain⟨o,h1,_⟩:=blk k hk
  exact⟨o,h1⟩
theorem pK {k:CK} {xs r:List Dt} {u:Value} (hk:ckOk k=true) (h:pY w k xs u r) (v id:Nat):∃d svs,xs=d++r∧ArgOk w v id (iniC v id k).2.1 (iniC v id k).2.2 d svs (fun ρ j=>(iniC v id k).1.den ρ j=some u):=by
 cases k with
 | int k=>
   obtain⟨x,rfl,rfl,hx⟩:=h
   refine⟨[.z x],[],rfl,rfl,fun s hs=>(by cases hs),⟨hx,trivial⟩,fun ρ j hd _=>⟨?_,fun i s q hs=>by simp at hs⟩⟩
   simp only[iniC,ah,varD,List.cons.injEq,Dt.z.injEq,and_true] at hd
   simp[iniC,C.den,E.I,hd]
 | bool=>
   obtain⟨b,rfl,rfl⟩:=h
   refine⟨[.z (b2i b)],[],rfl,rfl,fun s hs=>(by cases hs),⟨acL b,trivial⟩,fun ρ j hd _=>⟨?_,fun i s q hs=>by simp at hs⟩⟩
   simp only[iniC,ah,varD,List.cons.injEq,Dt.z.injEq,and_true] at hd
   simp[iniC,C.den,E.B,qe hd]
 | fn g=>obtain⟨rfl,rfl⟩:=h; exact⟨[],[],rfl,rfl,fun s hs=>(by cases hs),trivial,fun ρ j _ _=>⟨rfl,fun i s q hs=>by simp at hs⟩⟩
 | lit k z=>obtain⟨rfl,rfl⟩:=h; exact⟨[],[],rfl,rfl,fun s hs=>(by cases hs),trivial,fun ρ j _ _=>⟨rfl,fun i s q hs=>by simp at hs⟩⟩
 | nilf=>obtain⟨rfl,rfl⟩:=h; exact⟨[],[],rfl,rfl,fun s hs=>(by cases hs),trivial,fun ρ j _ _=>⟨rfl,fun i s q hs=>by simp at hs⟩⟩
 | any=>cases hk
 | sl ks ty=>
   obtain⟨L,s,rfl,rfl,hn,hrd,hrows,hlt⟩:=h
   unfold TRow at hrd
   rcases bF ks with⟨hks,hkd⟩ | ⟨_,hkd⟩
   ·rw[hkd] at hrd
    obtain⟨ins,hi1,hi2,hi3⟩:=hrd
    have hblk:∀x∈ins,∀k,x.blk false=some k→∃o,w.heap[k]? =some o∧isCl o=true:=fun x hx=>by
     obtain⟨i,hi⟩:=List.getElem?_of_mem hx
     have hlt:i<L.length:=by rw[←hi1]; exact(List.getElem?_eq_some_iff.1 hi).1
     exact(hi3 i L[i] x (List.getElem?_eq_getElem hlt) hi).blk
    refine⟨[.l L],[{s with z:=evZ w ins}],rfl,rfl,fun s' hs'=>(by rw[List.mem_singleton.1 hs']; exact zT hblk),⟨hrows,trivial⟩,fun ρ j hd hs=>⟨?_,fun i s' q hs' hq=> ?_⟩⟩
    ·have:=hs 0 _ rfl
     simp only[Nat.add_zero] at this
     show(j.s id).map SV.v=_
     rw[this]; rfl
    ·simp only[iniC,ah,varD,List.cons.injEq,Dt.l.injEq,and_true] at hd
     cases i with
     | succ i=>simp at hs'
     | zero=>
       simp only[iniC,List.getElem?_cons_zero,Option.some.injEq] at hs' hq
       subst hs' hq
       refine⟨rfl,fun base=>EvOk.row ⟨hks,?_,?_,hlt,fun ho=>(by cases ho),ins,?_,fun ho=>(by cases ho),?_,fun i row x hr hx=> ?_⟩ hkd⟩
       ·simp only[E.R,hd]; exact hn
       ·simp only[E.R,hd]; exact hrows
       ·simp only[E.R,hd]; exact hi1
       ·simp only[E.R,hd]; exact hi2
       ·simp only[E.R,hd] at hr
        exact(hi3 i row x hr hx).ei (fun p hp=>(zU (List.mem_of_getElem? hx)) p hp)
   ·rw[hkd] at hrd
    refine⟨[.l L],[{s with z:=[]}],rfl,rfl,fun s' hs'=>(by rw[List.mem_singleton.1 hs']; intro p hp; cases hp),⟨hrows,trivial⟩,fun ρ j hd hs=>⟨?_,fun i s' q hs' hq=> ?_⟩⟩
    ·have:=hs 0 _ rfl
     simp only[Nat.add_zero] at this
     show(j.s id).map SV.v=_
     rw[this]; rfl
    ·simp only[iniC,ah,varD,List.cons.injEq,Dt.l.injEq,and_true] at hd
     cases i with
     | succ i=>simp at hs'
     | zero=>
       simp only[iniC,List.getElem?_cons_zero,Option.some.injEq] at hs' hq
       subst hs' hq
       refine⟨rfl,fun base=>SlOk.row ⟨?_,?_,of_decide_eq_true hk,hlt,fun ho=>(by cases ho),?_⟩ hkd⟩
       ·simp only[E.R,hd]; exact hn
       ·simp only[E.R,hd]; exact hrows
       ·simp only[E.R,hd]; exact hrd
theorem ArgOk.app {v id:Nat} {vk1 vk2:List VK} {rows1 rows2:List RowOb} {d1 d2:List Dt} {s1 s2:List SV} {den1 den2:Env→J→Prop} (h1:ArgOk w v id vk1 rows1 d1 s1 den1) (h2:ArgOk w (v+vk1.length) (id+rows1.length) vk2 rows2 d2 s2 den2):
  ArgOk w v id (vk1++vk2) (rows1++rows2) (d1++d2) (s1++s2) (fun ρ j=>den1 ρ j∧den2 ρ j):=by
 refine⟨by simp[h1.len,h2.len],fun s hs=>(List.mem_append.1 hs).elim (h1.zz s) (h2.zz s),rx h1.ok h2.ok,fun ρ j hd hs=> ?_⟩
 rw[mT] at hd
 obtain⟨e1,e2⟩:=List.append_inj hd (by rw[io,rv h1.ok])
 obtain⟨a1,a2⟩:=h1.at' ρ j e1 (fun i s hi=>hs i s (by rw[List.getElem?_append_left (List.getElem?_eq_some_iff.1 hi).1]; exact hi))
 obtain⟨b1,b2⟩:=h2.at' ρ j e2 (fun i s hi=>by
  have:=hs (s1.length+i) s (by rw[List.getElem?_append_right (by omega),Nat.add_sub_cancel_left]; exact hi)
  rw[h1.len] at this
  rwa [Nat.add_assoc])
 refine⟨⟨a1,b1⟩,fun i s q hi hq=> ?_⟩
 rcases Nat.lt_or_ge i s1.length with hlt | hge
 ·rw[List.getElem?_append_left hlt] at hi
  rw[List.getElem?_append_left (by rw[←h1.len]; exact hlt)] at hq
  exact a2 i s q hi hq
 ·rw[List.getElem?_append_right hge] at hi
  rw[List.getElem?_append_right (by rw[←h1.len]; exact hge),←h1.len] at hq
  exact b2 _ s q hi hq
theorem wO:∀{ks:List CK} {xs r:List Dt} {us:List Value},ks.all ckOk=true→eX w ks xs us r→∀(v id:Nat),∃d svs,xs=d++r∧ArgOk w v id (iniL v id ks).2.1 (iniL v id ks).2.2 d svs (fun ρ j=>denL ρ j (iniL v id ks).1=some us)
 | [],xs,r,us,_,h,v,id=>by
   obtain⟨rfl,rfl⟩:=h
   exact⟨[],[],rfl,rfl,fun s hs=>(by cases hs),trivial,fun ρ j _ _=>⟨rfl,fun i s q hs=>by simp at hs⟩⟩
 | k::ks,xs,r,us,hk,h,v,id=>by
   simp only[List.all_cons,Bool.and_eq_true] at hk
   obtain⟨u,us',r',rfl,h1,h2⟩:=h
   obtain⟨d1,s1,rfl,g1⟩:=pK hk.1 h1 v id
   obtain⟨d2,s2,rfl,g2⟩:=wO hk.2 h2 (v+(iniC v id k).2.1.length) (id+(iniC v id k).2.2.length)
   refine⟨d1++d2,s1++s2,by simp,?_⟩
   obtain⟨q1,qz,q2,q3⟩:=g1.app g2
   refine⟨q1,qz,q2,fun ρ j hd hs=> ?_⟩
   obtain⟨⟨a1,a2⟩,a3⟩:=q3 ρ j hd hs
   exact⟨by simp only[iniL,denL,a1,a2],a3⟩
def FbAt (w:World) (ρ:Env) (j:J) (fb:List (List C)) (fid:Nat) (fks:List Nat):Prop:=
 ∀(b:Nat) cs,fb[b]? =some cs→∃k vs,fks[b]? =some k∧k<w.heap.size∧denL ρ j cs=some vs∧∀(o:Nat) u,vs[o]? =some u→dK cs o=true→w.cell? ⟨k,o,none⟩=some u
theorem pI:∀{ks:List CK} {xs r:List Dt} {us:List Value},ks.all acK=true→eX w ks xs us r→∀(v id:Nat),∃d svs us',xs=d++r∧ArgOk w v id (iniL v id ks).2.1 (iniL v id ks).2.2 d svs (fun ρ j=>denL ρ j (iniL v id ks).1=some us')∧∀(o:Nat) u,us'[o]? =some u→dK (iniL v id ks).1 o=true→us[o]? =some u
 | [],xs,r,us,_,h,v,id=>by
   obtain⟨rfl,rfl⟩:=h
   exact⟨[],[],[],rfl,⟨rfl,fun s hs=>(by cases hs),trivial,fun ρ j _ _=>⟨rfl,fun i s q hs=>by simp at hs⟩⟩,fun o u hu=>by simp at hu⟩
 | k::ks,xs,r,us,hk,h,v,id=>by
   simp only[List.all_cons,Bool.and_eq_true] at hk
   obtain⟨u,us1,r',rfl,h1,h2⟩:=h
   by_cases hany:k=.any
   ·subst hany
    have e1:xs=r':=h1
    subst e1
    obtain⟨d2,s2,us2,rfl,g2,g3⟩:=pI hk.2 h2 v id
    refine⟨d2,s2,Go.undef::us2,rfl,?_,fun o u' hu hs=> ?_⟩
    ·obtain⟨q1,qz,q2,q3⟩:=g2
     refine⟨q1,qz,q2,fun ρ j hd hs=> ?_⟩
     obtain⟨a1,a2⟩:=q3 ρ j hd hs
     exact⟨by simp only[iniL,iniC,denL,C.den]; simp only[List.length_nil,Nat.add_zero]; rw[a1],a2⟩
    ·cases o with
     | zero=>cases hs
     | succ o=>simpa using g3 o u' (by simpa using hu) hs
   ·have hk1:ckOk k=true:=by
     have:=hk.1
     cases k<;>first | exact this | exact absurd rfl hany
    obtain⟨d1,s1,rfl,g1⟩:=pK hk1 h1 v id
    obtain⟨d2,s2,us2,rfl,g2,g3⟩:=pI hk.2 h2 (v+(iniC v id k).2.1.length) (id+(iniC v id k).2.2.length)
    refine⟨d1++d2,s1++s2,u::us2,by simp,?_,fun o u' hu hs=> ?_⟩
    ·obtain⟨q1,qz,q2,q3⟩:=g1.app g2
     refine⟨q1,qz,q2,fun ρ j hd hs=> ?_⟩
     obtain⟨⟨a1,a2⟩,a3⟩:=q3 ρ j hd hs
     exact⟨by simp only[iniL,denL,a1,a2],a3⟩
    ·cases o with
     | zero=>simpa using hu
     | succ o=>simpa using g3 o u' (by simpa using hu) hs
theorem mA:∀{ss:List Sh} {xs:List Dt} {vals:List Value},shOk ss=true→iG w ss xs vals→∀(v id fid:Nat),∃svs fks,fks.length=(iniA v id fid ss).2.2.2.length∧(iniA v id fid ss).1.length=vals.length∧ArgOk w v id (iniA v id fid ss).2.1 (iniA v id fid ss).2.2.1 xs svs (fun ρ j=>(∀(i:Nat) k,fks[i]? =some k→j.f (fid+i)=some k)→(∀(i:Nat) x,(iniA v id fid ss).1[i]? =some x→∃u,vals[i]? =some u∧x.den ρ j=some u)∧FbAt w ρ j (iniA v id fid ss).2.2.2 fid fks)
 | [],xs,vals,_,h,v,id,fid=>by
   obtain⟨rfl,rfl⟩:=h
   exact⟨[],[],rfl,rfl,rfl,fun s hs=>(by cases hs),trivial,fun ρ j _ _=>⟨fun _=>⟨fun i x hx=>by simp[iniA] at hx,fun b cs hb=>by simp[iniA] at hb⟩,fun i s q hs=>by simp at hs⟩⟩
 | .one k::ss,xs,vals,hk,h,v,id,fid=>by
   simp only[shOk,xW,List.all_cons,Bool.and_eq_true,Sh.cks,List.all_nil,Bool.and_true] at hk
   obtain⟨u,us,r,rfl,h1,h2⟩:=h
   obtain⟨d1,s1,rfl,g1⟩:=pK hk.1 h1 v id
   obtain⟨s2,fks,hf,hl,g2⟩:=mA (ss:=ss) hk.2 h2 (v+(iniC v id k).2.1.length) (id+(iniC v id k).2.2.length) fid
   obtain⟨q1,qz,q2,q3⟩:=g1.app g2
   refine⟨s1++s2,fks,hf,by simp[iniA,hl],q1,qz,q2,fun ρ j hd hs=> ?_⟩
   obtain⟨⟨a1,a2⟩,a3⟩:=q3 ρ j hd hs
   refine⟨fun hj=> ?_,a3⟩
   obtain⟨b1,b2⟩:=a2 hj
   refine⟨fun i x hx=> ?_,b2⟩
   cases i with
   | zero=>simp only[iniA,List.getElem?_cons_zero,Option.some.injEq] at hx; subst hx; exact⟨u,rfl,a1⟩
   | succ i=>exact b1 i x (by simpa[iniA] using hx)
 | .agg ks::ss,xs,vals,hk,h,v,id,fid=>by
   simp only[shOk,xW,List.all_cons,Bool.and_eq_true,Sh.cks] at hk
   obtain⟨ws,us,r,rfl,h1,h2⟩:=h
   obtain⟨d1,s1,rfl,g1⟩:=wO hk.1 h1 v id
   obtain⟨s2,fks,hf,hl,g2⟩:=mA (ss:=ss) hk.2 h2 (v+(iniL v id ks).2.1.length) (id+(iniL v id ks).2.2.length) fid
   obtain⟨q1,qz,q2,q3⟩:=g1.app g2
   refine⟨s1++s2,fks,hf,by simp[iniA,hl],q1,qz,q2,fun ρ j hd hs=> ?_⟩
   obtain⟨⟨a1,a2⟩,a3⟩:=q3 ρ j hd hs
   refine⟨fun hj=> ?_,a3⟩
   obtain⟨b1,b2⟩:=a2 hj
   refine⟨fun i x hx=> ?_,b2⟩
   cases i with
   | zero=>simp only[iniA,List.getElem?_cons_zero,Option.some.injEq] at hx; subst hx; exact⟨_,rfl,by simp[V.den,a1]⟩
   | succ i=>exact b1 i x (by simpa[iniA] using hx)
 | .ptr ks::ss,xs,vals,hk,h,v,id,fid=>by
   simp only[shOk,xW,List.all_cons,Bool.and_eq_true] at hk
   obtain⟨kk,ws,us,r,rfl,h1,hlt,hcell,h2⟩:=h
   obtain⟨d1,s1,ws',rfl,g1,gw⟩:=pI hk.1 h1 v id
   obtain⟨s2,fks,hf,hl,g2⟩:=mA (ss:=ss) hk.2 h2 (v+(iniL v id ks).2.1.length) (id+(iniL v id ks).2.2.length) (fid+1)
   obtain⟨q1,qz,q2,q3⟩:=g1.app g2
   refine⟨s1++s2,kk::fks,by simp[iniA,hf],by simp[iniA,hl],q1,qz,q2,fun ρ j hd hs=> ?_⟩
   obtain⟨⟨a1,a2⟩,a3⟩:=q3 ρ j hd hs
   refine⟨fun hj=> ?_,a3⟩
   obtain⟨b1,b2⟩:=a2 (fun i k hi=>by
    have:=hj (i+1) k (by simpa using hi)
    rwa [show fid+(i+1)=fid+1+i by omega] at this)
   refine⟨fun i x hx=> ?_,fun b cs hb=> ?_⟩
   ·cases i with
    | zero=>
      simp only[iniA,List.getElem?_cons_zero,Option.some.injEq] at hx
      subst hx
      have:=hj 0 kk rfl
      rw[Nat.add_zero] at this
      exact⟨_,rfl,by simp[V.den,C.den,this]⟩
    | succ i=>exact b1 i x (by simpa[iniA] using hx)
   ·cases b with
    | zero=>
      simp only[iniA,List.getElem?_cons_zero,Option.some.injEq] at hb
      subst hb
      exact⟨kk,ws',rfl,hlt,a1,fun o u hu hs=>hcell o u (gw o u hu hs)⟩
    | succ b=>exact b2 b cs (by simpa[iniA] using hb)
theorem gi (w:World) (o:Obj):w.heap.size<(w.alloc o).heap.size:=by
 have h:=heap_alloc_new w o
 rcases Nat.lt_or_ge w.heap.size (w.alloc o).heap.size with h1 | h1
 ·exact h1
 ·rw[Array.getElem?_eq_none h1] at h; cases h
theorem EvIn.mono {w':World} (hx:Ext w w') {row:List Int} {x:SV} (h:EvIn w row x):EvIn w' row x:=by
 have lt:∀k,x.blk false=some k→k<w.heap.size:=fun k hk=>by
  obtain⟨o,h1,_⟩:=h.blk k hk
  exact(Array.getElem?_eq_some_iff.1 h1).1
 refine⟨h.n,h.most,h.rest,h.rd.kept (fun k hk=>hx.block k (lt k hk)),fun k hk=> ?_⟩
 obtain⟨o,h1,h2⟩:=h.blk k hk
 exact⟨o,by rw[hx.block k (lt k hk)]; exact h1,h2⟩
theorem TRow.mono {w':World} (hx:Ext w w') {ks:List CE} {s:SV} {L:List (List Int)} (h:TRow w ks s L) (hb:∀k,s.blk false=some k→k<w.heap.size):TRow w' ks s L:=by
 unfold TRow at h ⊢
 split
 ·rename_i hk
  rw[hk] at h
  obtain⟨ins,h1,h2,h3⟩:=h
  exact⟨ins,h1,h2.kept (fun k hk=>hx.block k (hb k hk)),fun i row x hr hi=>(h3 i row x hr hi).mono hx⟩
 ·rename_i hk
  rcases bF ks with⟨_,h1⟩ | ⟨_,h1⟩
  ·exact absurd h1 hk
  ·rw[h1] at h
   exact h.kept (fun k hk=>hx.block k (hb k hk))
theorem ic {w':World} (hx:Ext w w') {k:CK} {xs r:List Dt} {u:Value} (h:pY w k xs u r):pY w' k xs u r:=by
 cases k with
 | sl ks ty=>
   obtain⟨L,s,h1,h2,h3,h4,h5,h6⟩:=h
   exact⟨L,s,h1,h2,h3,h4.mono hx h6,h5,fun k hk=>Nat.lt_of_lt_of_le (h6 k hk) hx.size⟩
 | _=>exact h
theorem fy {w':World} (hx:Ext w w'):∀{ks:List CK} {xs r:List Dt} {us:List Value},eX w ks xs us r→eX w' ks xs us r
 | [],_,_,_,h=>h
 | k::ks,xs,r,us,h=>by
   obtain⟨u,us',r',h1,h2,h3⟩:=h
   exact⟨u,us',r',h1,ic hx h2,fy hx h3⟩
def Lens (xs:List Dt):Prop:=∀L,Dt.l L∈xs→L.length≤maxLen
theorem Lens.tail {d:Dt} {xs:List Dt} (h:Lens (d::xs)):Lens xs:=fun L hL=>h L (List.mem_cons_of_mem _ hL)
def pR:CK→Bool
 | .sl ks _=>!bk ks evKs
 | _=>true
theorem si {k:CK} {xs r:List Dt} (hv:pR k=true) (h:ckIn k xs r) (hl:Lens xs) (w:World):∃w' u,Ext w w'∧pY w' k xs u r∧Lens r:=by
 cases k with
 | int k=>obtain⟨x,rfl,hx⟩:=h; exact⟨w,_,.refl w,⟨x,rfl,rfl,hx⟩,hl.tail⟩
 | bool=>obtain⟨b,rfl⟩:=h; exact⟨w,_,.refl w,⟨b,rfl,rfl⟩,hl.tail⟩
 | fn g=>exact⟨w,_,.refl w,⟨h,rfl⟩,by rw[←show xs=r from h]; exact hl⟩
 | lit k z=>exact⟨w,_,.refl w,⟨h,rfl⟩,by rw[←show xs=r from h]; exact hl⟩
 | nilf=>exact⟨w,_,.refl w,⟨h,rfl⟩,by rw[←show xs=r from h]; exact hl⟩
 | any=>exact⟨w,Go.undef,.refl w,h,by rw[←show xs=r from h]; exact hl⟩
 | sl ks ty=>
   obtain⟨L,rfl,hL⟩:=h
   have hlen:L.length≤maxLen:=hl L List.mem_cons_self
   have hT:∀w' s,RdRow w' ks.length s (flat ks L)→TRow w' ks s L:=fun w' s h=>by
    unfold TRow
    rcases bF ks with⟨h1,_⟩ | ⟨_,h1⟩
    ·rw[h1] at hv; cases hv
    ·rw[h1]; exact h
   refine⟨w.alloc (.cells (flat ks L).toArray ty),(SV.mk (some ⟨w.heap.size,0,none⟩) L.length L.length []).v,(Ext.refl w).alloc _,⟨L,⟨some ⟨w.heap.size,0,none⟩,L.length,L.length,[]⟩,rfl,rfl,rfl,hT _ _ ⟨aL hL,Nat.le_refl _,hlen,fun h=>(by cases h),fun a ha i u hu=> ?_⟩,⟨hL,hlen⟩,fun k hk=> ?_⟩,hl.tail⟩
   ·cases ha
    have:(⟨w.heap.size,0,none⟩:Addr).add i=⟨w.heap.size,i,none⟩:=by unfold Addr.add; split<;>simp_all
    rw[this,mN (heap_alloc_new w _)]
    exact hu
   ·have hk:=ap hk
    simp only[SV.v,Value.ownBlock,Option.some.injEq] at hk
    subst hk
    exact gi w _
theorem kt:∀{ks:List CK} {xs r:List Dt},ks.all pR=true→tC ks xs r→Lens xs→∀(w:World),∃w' us,Ext w w'∧eX w' ks xs us r∧Lens r
 | [],xs,r,_,h,hl,w=>⟨w,[],.refl w,⟨h,rfl⟩,by rw[←show xs=r from h]; exact hl⟩
 | k::ks,xs,r,hv,h,hl,w=>by
   simp only[List.all_cons,Bool.and_eq_true] at hv
   obtain⟨r',h1,h2⟩:=h
   obtain⟨w1,u,e1,g1,l1⟩:=si hv.1 h1 hl w
   obtain⟨w2,us,e2,g2,l2⟩:=kt hv.2 h2 l1 w1
   exact⟨w2,u::us,e1.trans e2,⟨u,us,r',rfl,ic e2 g1,g2⟩,l2⟩
def iz (ss:List Sh):Bool:=ss.all fun s=>s.cks.all pR
theorem eJ:∀{ss:List Sh} {xs:List Dt},iz ss=true→xD ss xs→Lens xs→∀(w:World),∃w' vals,Ext w w'∧iG w' ss xs vals
 | [],xs,_,h,_,w=>⟨w,[],.refl w,h,rfl⟩
 | .one k::ss,xs,hv,h,hl,w=>by
   simp only[iz,List.all_cons,Bool.and_eq_true,Sh.cks,List.all_nil,Bool.and_true] at hv
   obtain⟨r,⟨r1,h1,h2⟩,h3⟩:=h
   cases h2
   obtain⟨w1,u,e1,g1,l1⟩:=si hv.1 h1 hl w
   obtain⟨w2,us,e2,g2⟩:=eJ (ss:=ss) hv.2 h3 l1 w1
   exact⟨w2,u::us,e1.trans e2,u,us,_,rfl,ic e2 g1,g2⟩
 | .agg ks::ss,xs,hv,h,hl,w=>by
   simp only[iz,List.all_cons,Bool.and_eq_true,Sh.cks,List.all_nil,Bool.and_true] at hv
   obtain⟨r,h1,h3⟩:=h
   obtain⟨w1,u,e1,g1,l1⟩:=kt hv.1 h1 hl w
   obtain⟨w2,us,e2,g2⟩:=eJ (ss:=ss) hv.2 h3 l1 w1
   exact⟨w2,_,e1.trans e2,u,us,_,rfl,fy e2 g1,g2⟩
 | .ptr ks::ss,xs,hv,h,hl,w=>by
   simp only[iz,List.all_cons,Bool.and_eq_true,Sh.cks,List.all_nil,Bool.and_true] at hv
   obtain⟨r,h1,h3⟩:=h
   obtain⟨w1,u,e1,g1,l1⟩:=kt hv.1 h1 hl w
   have e2:Ext w1 (w1.alloc (.cells u.toArray 0)):=(Ext.refl w1).alloc _
   obtain⟨w3,us,e3,g3⟩:=eJ (ss:=ss) hv.2 h3 l1 (w1.alloc (.cells u.toArray 0))
   have hlt:w1.heap.size<(w1.alloc (.cells u.toArray 0)).heap.size:=gi w1 _
   refine⟨w3,_,e1.trans (e2.trans e3),w1.heap.size,u,us,_,rfl,fy (e2.trans e3) g1,Nat.lt_of_lt_of_le hlt e3.size,fun o v ho=> ?_,g3⟩
   rw[World.cell?_of_block (a:=⟨w1.heap.size,o,none⟩) (e3.block _ hlt),mN (heap_alloc_new w1 _)]
   exact ho
theorem lA:∀{ss:List Sh} {xs:List Dt},(ss.all fun s=>s.cks.all fun k=>!k.isSl)=true→xD ss xs→Lens xs
 | [],xs,_,h=>by cases h; intro L hL; cases hL
 | s::ss,xs,hk,h=>by
   simp only[List.all_cons,Bool.and_eq_true] at hk
   obtain⟨r,h1,h2⟩:=h
   have ih:=lA hk.2 h2
   have key:∀(ks:List CK) (xs r:List Dt),ks.all (fun k=>!k.isSl)=true→tC ks xs r→Lens r→Lens xs:=by
    intro ks
    induction ks with
    | nil=>intro xs r _ h hl; cases h; exact hl
    | cons k ks ihk=>
      intro xs r hk h hl
      simp only[List.all_cons,Bool.and_eq_true] at hk
      obtain⟨r',h1,h2⟩:=h
      have l2:=ihk r' r hk.2 h2 hl
      cases k with
      | int k=>
        obtain⟨x,rfl,_⟩:=h1
        intro L hL
        rcases List.mem_cons.1 hL with e | hL
        ·cases e
        ·exact l2 L hL
      | bool=>
        obtain⟨x,rfl⟩:=h1
        intro L hL
        rcases List.mem_cons.1 hL with e | hL
        ·cases e
        ·exact l2 L hL
      | sl ks ty=>simp[CK.isSl] at hk
      | _=>rw[show xs=r' from h1]; exact l2
   exact key _ xs r hk.1 h1 ih
theorem og {ds:List Dt} {v0:Nat}:∀(ks:List CK) (n:Nat),dY ks (ds.drop n)→eqs ρ ds v0 n ks→(∀(m:Nat) k,ks[m]? =some (.int k)→inK k (ρ.i (v0+(n+m)))=true)∧∀(m:Nat) k ty,ks[m]? =some (.sl k ty)→RowsIn k (ρ.l (v0+(n+m)))
 | [],n,_,_=>⟨fun m k h=>by simp at h,fun m k ty h=>by simp at h⟩
 | k::ks,n,h,he=>by
   cases hd:ds.drop n with
   | nil=>rw[hd] at h; cases k<;>exact h.elim
   | cons d r=>
     rw[hd] at h
     obtain⟨d1,d2⟩:=bX hd
     have main:dY ks r∧eqs ρ ds v0 (n+1) ks∧(∀k',k=.int k'→inK k' (ρ.i (v0+n))=true)∧∀k' ty,k=.sl k' ty→RowsIn k' (ρ.l (v0+n)):=by
      cases k with
      | int k=>
        cases d with
        | z x=>exact⟨h.2,he.2,fun k' e=>(by cases e; rw[he.1,xl d1]; exact h.1),fun k' ty e=>(by cases e)⟩
        | l L=>exact h.elim
      | sl ks0 ty=>
        cases d with
        | z x=>exact h.elim
        | l L=>exact⟨h.2,he.2,fun k' e=>(by cases e),fun k' ty e=>(by cases e; rw[he.1,zg d1]; exact h.1)⟩
      | bool=>exact⟨h,he.2,fun k' e=>(by cases e),fun k' ty e=>(by cases e)⟩
      | _=>exact⟨h,he,fun k' e=>(by cases e),fun k' ty e=>(by cases e)⟩
     obtain⟨m1,m2,m3,m4⟩:=main
     obtain⟨i1,i2⟩:=og ks (n+1) (by rw[d2]; exact m1) m2
     refine⟨fun m k' hm=> ?_,fun m k' ty hm=> ?_⟩
     ·cases m with
      | zero=>simp only[List.getElem?_cons_zero,Option.some.injEq] at hm; exact m3 k' hm
      | succ m=>
        have:=i1 m k' (by simpa using hm)
        rwa [show n+(m+1)=n+1+m by omega]
     ·cases m with
      | zero=>simp only[List.getElem?_cons_zero,Option.some.injEq] at hm; exact m4 k' ty hm
      | succ m=>
        have:=i2 m k' ty (by simpa using hm)
        rwa [show n+(m+1)=n+1+m by omega]
def aac (args res:List Sh) (pre:List Dt→Prop):Prop:=(args.all fun a=>a.cks.all fun k=>!k.isSl)=true∨((∀xs,pre xs→Lens xs)∧iz args=true)∨(res.all fun a=>a.cks.all fun k=>match k with | .int _=>false | .sl _ _=>false | _=>true)=true
theorem xf {ss:List Sh} (h:(ss.all fun a=>a.cks.all fun k=>!k.isSl)=true):iz ss=true:=by
 unfold iz
 rw[List.all_eq_true] at h ⊢
 intro s hs
 have:=h s hs
 rw[List.all_eq_true] at this ⊢
 intro k hk
 have:=this k hk
 cases k<;>first | rfl | (simp[CK.isSl] at this)
theorem SmOk.of_calls {s:Sm} (hl:aac s.args s.res (sp.pre s.key))
  (h:∀xs vals w,iG w s.args xs vals→sp.pre s.key xs→
   (∃v w',(callFunc s.f vals.toArray).run P w=.ok (.value v) w'∧RetOk s.res s.tup w w' (sp.F s.key xs) v)∨((callFunc s.f vals.toArray).run P w=.ok (.enter s.f vals.toArray) w∧Calls P s.f vals.toArray w fun e w'=>∃v,e=.returned v∧RetOk s.res s.tup w w' (sp.F s.key xs) v)) (hn:s.inp=none:=by rfl):SmOk P sp s:=by
 refine⟨fun _=>h,fun ks ty e=>(by rw[hn] at e; cases e),fun xs hin hpre ρ v0 he=> ?_⟩
 have hlen:(Lens xs∧iz s.args=true)∨((∀(n:Nat) k,s.ks[n]? =some (.int k)→inK k (ρ.i (v0+n))=true)∧(∀(n:Nat) ks ty,s.ks[n]? =some (.sl ks ty)→RowsIn ks (ρ.l (v0+n)))):=by
  rcases hl with hl | hl | hl
  ·exact .inl ⟨lA hl hin,xf hl⟩
  ·exact .inl ⟨hl.1 xs hpre,hl.2⟩
  ·right
   have key:∀k∈s.ks,(match k with | .int _=>false | .sl _ _=>false | _=>true)=true:=fun k hk=>by
    obtain⟨a,ha,hk⟩:=List.mem_flatMap.1 hk
    exact List.all_eq_true.1 (List.all_eq_true.1 hl a ha) k hk
   exact⟨fun n k hk=>(by have:=key _ (List.mem_of_getElem? hk); cases this),fun n ks ty hk=>(by have:=key _ (List.mem_of_getElem? hk); cases this)⟩
 rcases hlen with⟨hlen,hev⟩ | hdone
 rotate_left
 ·exact hdone
 obtain⟨w,vals,_,hw⟩:=eJ hev hin hlen default
 have hres:dY (s.res.flatMap (·.cks)) (sp.F s.key xs):=by
  rcases h xs vals w hw hpre with⟨v,w',_,hr⟩ | ⟨_,hc⟩
  ·exact hr.rng
  ·obtain⟨e,w',_,⟨v,_,hr⟩,_⟩:=hc []
   exact hr.rng
 have he':eqs ρ (sp.F s.key xs) v0 0 (s.res.flatMap (·.cks)):=he
 have:=og (ρ:=ρ) (ds:=sp.F s.key xs) (v0:=v0) (s.res.flatMap (·.cks)) 0 (by simpa using hres) he'
 simpa[Sm.ks] using this
def im:List VK→(List Dt→Prop)→Prop
 | [],p=>p []
 | .int k::l,p=>∀x,inK k x=true→im l fun r=>p (.z x::r)
 | .bool::l,p=>∀b:Bool,im l fun r=>p (.z (b2i b)::r)
 | .list ks::l,p=>∀L,RowsIn ks L→im l fun r=>p (.l L::r)
theorem dc:∀{l:List VK} {p:List Dt→Prop},im l p→∀xs,okDs l xs→p xs
 | [],p,h,[],_=>h
 | .int k::l,p,h,.z x::r,ho=>dc (h x ho.1) r ho.2
 | .bool::l,p,h,.z x::r,ho=>by
   rcases ho.1 with rfl | rfl
   ·exact dc (h false) r ho.2
   ·exact dc (h true) r ho.2
 | .list ks::l,p,h,.l L::r,ho=>dc (h L ho.1) r ho.2
 | [],p,h,_::_,ho=>ho.elim
 | .int _::_,p,h,[],ho=>ho.elim
 | .bool::_,p,h,[],ho=>ho.elim
 | .list _::_,p,h,[],ho=>ho.elim
 | .int _::_,p,h,.l _::_,ho=>ho.1.elim
 | .bool::_,p,h,.l _::_,ho=>ho.1.elim
 | .list _::_,p,h,.z _::_,ho=>ho.1.elim
def yO:List Sm→Bool
 | []=>true
 | s::l=>(l.all fun x=>!Nat.beq x.key s.key)&&yO l
theorem wK:∀{l:List Sm},yO l=true→∀s∈l,∀s'∈l,s.key=s'.key→s=s'
 | [],_,s,hs,_,_,_=>by cases hs
 | x::l,h,s,hs,s',hs',he=>by
   simp only[yO,Bool.and_eq_true,List.all_eq_true,Bool.not_eq_true'] at h
   rcases List.mem_cons.1 hs with rfl | hs<;>rcases List.mem_cons.1 hs' with rfl | hs'
   ·rfl
   ·have:=h.1 s' (by assumption)
    rw[he] at this
    simp at this
   ·have:=h.1 s (by assumption)
    rw[he] at this
    simp at this
   ·exact wK h.2 s (by assumption) s' (by assumption) he
def pJ (ss:List Sh):List V×List VK×List RowOb×List (List C):=iniA 0 0 0 ss
def ab0 (ty:List (Nat×TI)) (sm:List Sm) (fns:List (Nat×Func×List (Nat×List Pl)×List (Nat×List Pl))) (hints cuts:List (Nat×List Pl)) (fuel:Nat) (fn:Func) (args res:List Sh):Tr:=
 funK ⟨ty,sm,res,(pJ args).2.2.2,hints,cuts,fns⟩ fuel fn (pJ args).1 ((pJ args).2.2.1.map .row) ⟨[],[],(pJ args).2.1,0⟩
def aM (ty:List (Nat×TI)) (sm:List Sm) (fns:List (Nat×Func×List (Nat×List Pl)×List (Nat×List Pl))) (hints cuts:List (Nat×List Pl)) (fuel:Nat) (fn:Func) (args res:List Sh) (tup:Bool) (vks:List VK) (t:Tr):Prop:=
 ab0 ty sm fns hints cuts fuel fn args res=t∧(pJ args).2.1=vks∧(t.sc vks.length&&(shOk args&&((Nat.beq res.length 1 == !tup)&&(yO sm&&(!(fn.name== "runtime.NumGoroutine") &&!fn.body.isNone)))))=true
theorem fn0 {P:Program}:∀p∈([]:List (Nat×Func×List (Nat×List Pl)×List (Nat×List Pl))),P.funcs[p.1]? =some p.2.1:=fun _ h=>by cases h
theorem fnc {P:Program} {g:Nat} {fn:Func} {x:List (Nat×List Pl)×List (Nat×List Pl)} {l:List (Nat×Func×List (Nat×List Pl)×List (Nat×List Pl))} (h:P.funcs[g]? =some fn) (h':∀p∈l,P.funcs[p.1]? =some p.2.1):∀p∈(g,fn,x)::l,P.funcs[p.1]? =some p.2.1:=List.forall_mem_cons.2 ⟨h,h'⟩
theorem oG {sp':Spec} {f:Nat} {args res:List Sh} {tup:Bool} {ty:List (Nat×TI)} {sm:List Sm} {fns:List (Nat×Func×List (Nat×List Pl)×List (Nat×List Pl))} {hints cuts:List (Nat×List Pl)} {fuel:Nat} {fn:Func} {vks:List VK} {t:Tr} {F:List Dt→List Dt} {pre:List Dt→Prop} (hm:P.follows .mixedOrders=true) (hT:∀t i,(t,i)∈ty→TIok P t i) (hS:∀s∈sm,SmOk P sp' s) (hf:P.funcs[f]? =some fn)
  (hF':∀p∈fns,P.funcs[p.1]? =some p.2.1) (ht:aM ty sm fns hints cuts fuel fn args res tup vks t)
  (h:im vks fun xs=>pre xs→∀ρ,ah ρ 0 vks=xs→t.asks sp' (fun ρ e=>e.D ρ=F xs) ρ fun _ _=>False) (xs:List Dt) (vals:List Value) (w:World) (hw:iG w args xs vals) (hpre:pre xs):
  (callFunc f vals.toArray).run P w=.ok (.enter f vals.toArray) w∧Calls P f vals.toArray w fun e w'=>∃v,e=.returned v∧RetOk res tup w w' (F xs) v:=by
 obtain⟨ht1,hv1,ht2⟩:=ht
 simp only[Bool.and_eq_true,beq_iff_eq,Bool.not_eq_true'] at ht2
 obtain⟨hsc,hok,htup,hkeys,hname,hbody⟩:=ht2
 refine⟨da hf hname hbody _ w,?_⟩
 obtain⟨svs,fks,hfl,hvl,harg⟩:=mA hok hw 0 0 0
 have hv2:(iniA 0 0 0 args).2.1=vks:=hv1
 rw[hv2] at harg
 let ρ0:Env:=Env.put ⟨fun _=>0,fun _=>false,fun _=>[]⟩ 0 xs
 have hv0:∀ρ',Ag vks.length ρ0 ρ'→ah ρ' 0 vks=xs:=fun ρ' ha=>fV harg.ok (by rw[Nat.zero_add]; exact ha)
 obtain⟨ρ',h1,h2⟩:=tv (G:=fun ρ e=>e.D ρ=F xs) t vks.length ρ0 (fun _ _=>False) hsc (fun ρ' ha=>dc h xs harg.ok hpre ρ' (hv0 ρ' ha))
 let j:J:=⟨fun _=>none,fun id=>svs[id]?,fun b=>fks[b]?,⟨fun _=>none,clz w⟩⟩
 obtain⟨a1,a2⟩:=harg.at' ρ' j (hv0 ρ' h1) (fun i s hi=>by rw[Nat.zero_add]; exact hi)
 obtain⟨a3,a4⟩:=a1 (fun i k hi=>by rw[Nat.zero_add]; exact hi)
 rw[←ht1] at h2
 have hvk:Vk ρ' vks:=by
  have hd:=hv0 ρ' h1
  have ho:=harg.ok
  have key:∀(l:List VK) (n:Nat),okDs l (ah ρ' n l)→(∀(i:Nat) k,l[i]? =some (.int k)→inK k (ρ'.i (n+i))=true)∧∀(i:Nat) ks,l[i]? =some (.list ks)→RowsIn ks (ρ'.l (n+i)):=by
   intro l
   induction l with
   | nil=>intro n _; exact⟨fun i k h=>by simp at h,fun i k h=>by simp at h⟩
   | cons x l ih=>
     intro n h
     obtain⟨i1,i2⟩:=ih (n+1) h.2
     refine⟨fun i k hk=> ?_,fun i ks hk=> ?_⟩
     ·cases i with
      | zero=>simp at hk; subst hk; exact h.1
      | succ i=>
        have:=i1 i k (by simpa using hk)
        rwa [show n+(i+1)=n+1+i by omega]
     ·cases i with
      | zero=>simp at hk; subst hk; exact h.1
      | succ i=>
        have:=i2 i ks (by simpa using hk)
        rwa [show n+(i+1)=n+1+i by omega]
  obtain⟨k1,k2⟩:=key _ 0 (by rw[hd]; exact ho)
  exact⟨fun i k hk=>by have:=k1 i k hk; rwa [Nat.zero_add] at this,fun i k hk=>by have:=k2 i k hk; rwa [Nat.zero_add] at this⟩
 refine abE (hF:=hF') (ρ:=ρ') (j:=j) (kw:=⟨[],[],(pJ args).2.1,0⟩) (cx:=⟨ty,sm,res,(pJ args).2.2.2,hints,cuts,fns⟩) hm hT hS (wK hkeys) hf a3 hvl.symm htup h2 ⟨fun p hp=>(by cases hp),by rw[hv1]; exact hvk,fun p hp=>(by cases hp)⟩ w ⟨fun b ob hb=> ?_,fun b hb=> ?_,fun b=>rfl,rfl,fun b s hs=> ?_,fun b cs hb=> ?_⟩
 ·rw[List.getElem?_map,Option.map_eq_some_iff] at hb
  obtain⟨q,hq,rfl⟩:=hb
  have hlt:b<svs.length:=by rw[harg.len]; exact(List.getElem?_eq_some_iff.1 hq).1
  obtain⟨g1,g2⟩:=a2 b svs[b] q (List.getElem?_eq_getElem hlt) hq
  exact⟨q,svs[b],rfl,g1,List.getElem?_eq_getElem hlt,g2 _⟩
 ·rw[List.length_map] at hb
  exact List.getElem?_eq_none (by rw[harg.len]; exact hb)
 ·exact harg.zz s (List.mem_of_getElem? hs)
 ·exact a4 b cs hb
theorem sm0 {sp:Spec}:∀s∈([]:List Sm),SmOk P sp s:=fun _ h=>by cases h
theorem smc {sp:Spec} {s:Sm} {l:List Sm} (h:SmOk P sp s) (h':∀s∈l,SmOk P sp s):∀x∈s::l,SmOk P sp x:=List.forall_mem_cons.2 ⟨h,h'⟩
theorem aS {sp sp':Spec} {s:Sm} {ty:List (Nat×TI)} {sm:List Sm} {fns:List (Nat×Func×List (Nat×List Pl)×List (Nat×List Pl))} {hints cuts:List (Nat×List Pl)} {fuel:Nat} {fn:Func} {vks:List VK} {t:Tr} {F:List Dt→List Dt} {pre:List Dt→Prop} (hF:sp.F s.key=F) (hP:sp.pre s.key=pre) (hm:P.follows .mixedOrders=true) (hT:∀t i,(t,i)∈ty→TIok P t i) (hS:∀s∈sm,SmOk P sp' s) (hf:P.funcs[s.f]? =some fn)
  (hF':∀p∈fns,P.funcs[p.1]? =some p.2.1) (ht:aM ty sm fns hints cuts fuel fn s.args s.res s.tup vks t) (hl:aac s.args s.res pre)
  (h:im vks fun xs=>pre xs→∀ρ,ah ρ 0 vks=xs→t.asks sp' (fun ρ e=>e.D ρ=F xs) ρ fun _ _=>False) (hn:s.inp=none:=by rfl):SmOk P sp s:=
 SmOk.of_calls (by rw[hP]; exact hl) (fun xs vals w hw hpre=>.inr (by rw[hF]; rw[hP] at hpre; exact oG hm hT hS hf hF' ht h xs vals w hw hpre)) hn
theorem SmOk.pure {s:Sm} {F:List Dt→List Dt} (hF:sp.F s.key=F) (hl:(s.args.all fun a=>a.cks.all fun k=>!k.isSl)=true) (hr:((s.res.flatMap (·.cks)).filter CK.isSl)=[])
  (h:∀xs vals w,iG w s.args xs vals→∃X,((callFunc s.f vals.toArray).run P w=.ok (.value X) w∨((callFunc s.f vals.toArray).run P w=.ok (.enter s.f vals.toArray) w∧Calls P s.f vals.toArray w fun e w'=>e=.returned X∧Ext w w'))∧dY (s.res.flatMap (·.cks)) (F xs)∧∀(ρ:Env) v0 nid j,eqs ρ (F xs) v0 0 (s.res.flatMap (·.cks))→(eS s.res s.tup v0 nid).den ρ j=some X) (hn:s.inp=none:=by rfl):SmOk P sp s:=by
 refine SmOk.of_calls (.inl hl) (fun xs vals w hw _=> ?_) hn
 obtain⟨X,h1,h2,h3⟩:=h xs vals w hw
 rw[hF]
 have ret:∀w',Ext w w'→RetOk s.res s.tup w w' (F xs) X:=fun w' hx=>
  ⟨hx,h2,[],by rw[hr]; rfl,fun ρ v0 nid j he _=>h3 ρ v0 nid j he,fun ρ v0 _ i u r hu=>by simp at hu,fun i i' u u' k hu=>(by simp at hu),fun u hu=>(by cases hu)⟩
 rcases h1 with h1 | ⟨h1,hc⟩
 ·exact .inl ⟨X,w,h1,ret w (.refl w)⟩
 ·exact .inr ⟨h1,hc.mono fun e w' he=>⟨X,he.1,ret w' he.2⟩⟩
def cO:Value→Bool
 | .int k z=>inK k z
 | _=>true
def cK:Value→Bool
 | .agg cs=>cs.toList.all cO
 | v=>cO v
def eM:Value→Bool
 | .tuple vs=>vs.toList.all cK
 | v=>cK v
theorem RetOk.says {w w':World} {v:Value} (h:RetOk [.one .bool] false w w' [.z 1] v):v=.bool true:=by
 obtain⟨svs,_,h1,_⟩:=h.svs
 have:=h1 ⟨fun _=>0,fun _=>true,fun _=>[]⟩ 0 0 ⟨fun _=>none,fun id=>svs[id]?,fun _=>none,Gh.zero⟩ ⟨rfl,trivial⟩ (fun i u hi=>by rw[Nat.zero_add]; exact hi)
 cases this
 rfl
@[simp] theorem b2i_eq_iff {a b:Bool}:(b2i a=b2i b)=(a=b):=propext ⟨qe,fun h=>by rw[h]⟩
@[simp] theorem b2i_one {a:Bool}:(b2i a==1)=a:=aab a
theorem zb {a b:Bool} (h:a=b):[Dt.z (b2i a)]=[Dt.z (b2i b)]:=by rw[h]
def E.vs (n:Nat):Nat→E→E
 | 0,t=>t
 | k+1,t=>.cons (.var n) (E.vs (n+1) k t)
end
end Go.Proofs.Ytghiofgomcihcaa
