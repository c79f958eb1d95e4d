import Derived.Test.YtghiofgomcihcaaSyB
import Derived.Laws.EntriesVeiled
set_option linter.unusedVariables false
set_option linter.unusedSimpArgs false
namespace Go.Proofs.Ytghiofgomcihcaa
open Go.RowKit
inductive RE where
 | none
 | set (id:Nat) (r:RowOb)
 | mk (rs:List RowOb)
 | app (old:Nat) (r:RowOb)
 | view (old:Nat) (q r:RowOb)
 | frz (old:Nat) (q r:RowOb)
 | peek (r:RowOb)
 deriving Repr,Inhabited
def mkRs:Nat→List RowOb→List (Nat×Option RowOb)
 | _,[]=>[]
 | n,r::l=>(n,some r)::mkRs (n+1) l
def RE.rs (nid:Nat):RE→List (Nat×Option RowOb)
 | .none=>[]
 | .set id r=>[(id,some r)]
 | .mk rs=>mkRs nid rs
 | .app old r=>[(old,Option.none),(nid,some r)]
 | .view old q r=>[(old,some q),(nid,some r)]
 | .frz old q r=>[(old,some q),(nid,some r)]
 | .peek r=>[(nid,some r)]
def dX (ld:Nat→Nat→Option C) (b:Nat):Nat→Nat→Option (List C)
 | _,0=>some []
 | o,n+1=>match ld b o,dX ld b (o+1) n with
   | some c,some cs=>some (c::cs)
   | _,_=>none
def uv:List C→Nat→Option (List C)
 | _,0=>some []
 | c::cs,n+1=>(uv cs n).map (c::·)
 | [],_+1=>none
def seg:List C→Nat→Nat→Option (List C)
 | cs,0,n=>uv cs n
 | _::cs,o+1,n=>seg cs o n
 | [],_+1,_=>none
theorem qm {ld:Nat→Nat→Option C} {b:Nat}:∀{n:Nat} {cs ds:List C} {o:Nat},uv cs n=some ds→(∀i,ld b (o+i)=cs[i]?)→dX ld b o n=some ds
 | 0,cs,ds,o,h,_=>by
   have:ds=[]:=by cases cs<;>simpa[uv] using h.symm
   subst this
   rfl
 | n+1,c::cs,ds,o,h,hl=>by
   simp only[uv,Option.map_eq_some_iff] at h
   obtain⟨es,h1,rfl⟩:=h
   have h2:=qm (ld:=ld) (b:=b) (o:=o+1) h1 (fun i=>by rw[show o+1+i=o+(i+1) by omega,hl]; rfl)
   have h0:=hl 0
   simp only[Nat.add_zero,List.getElem?_cons_zero] at h0
   simp only[dX,h0,h2]
 | n+1,[],ds,o,h,_=>by cases h
theorem uV {ld:Nat→Nat→Option C} {b:Nat} {n:Nat}:∀{o k:Nat} {cs ds:List C},seg cs o n=some ds→(∀i,ld b (k+i)=cs[i]?)→dX ld b (k+o) n=some ds
 | 0,k,cs,ds,h,hl=>qm (cs:=cs) (by cases cs<;>exact h) hl
 | o+1,k,c::cs,ds,h,hl=>by
   have:=uV (ld:=ld) (b:=b) (o:=o) (k:=k+1) (cs:=cs) (ds:=ds) h (fun i=>by rw[show k+1+i=k+(i+1) by omega,hl]; rfl)
   rwa [show k+(o+1)=k+1+o by omega]
 | o+1,k,[],ds,h,_=>by cases h
structure Vw where
 ev:Operand→Option V
 ld:Nat→Nat→Option C
 rw:Nat→Option RowOb
 fb:Nat→Option (List C)
 nid:Nat
 row:Nat→Nat→Nat→Option (List C)
 rowok:∀b o n cs,row b o n=some cs→dX ld b o n=some cs
def Vw.sw (vw:Vw) (id:Nat):Option RowOb:=match vw.rw id with
 | some r=>if r.kd.isSl then some r else none
 | none=>none
theorem Vw.sw_some {vw:Vw} {id:Nat} {r:RowOb} (h:vw.sw id=some r):vw.rw id=some r∧r.kd=.sl:=by
 unfold Vw.sw at h
 split at h
 ·rename_i q hq
  split at h
  ·rename_i hk
   cases h
   refine⟨hq,?_⟩
   cases hd:r.kd with
   | sl=>rfl
   | _=>rw[hd] at hk; cases hk
  ·cases h
 ·cases h
def Vw.tw (vw:Vw) (id:Nat):Option RowOb:=match vw.rw id with
 | some r=>if r.kd.fits r.ks then some r else none
 | none=>none
theorem Vw.tw_some {vw:Vw} {id:Nat} {r:RowOb} (h:vw.tw id=some r):vw.rw id=some r∧r.kd=kdOf r.ks:=by
 unfold Vw.tw at h
 split at h
 ·rename_i q hq
  split at h
  ·rename_i hk
   cases h
   exact⟨hq,RK.fits_eq hk⟩
  ·cases h
 ·cases h
structure Eff where
 val:V
 al:Option (List C×Nat):=none
 rd:List (Nat×Nat):=[]
 wr:List (Nat×Nat×C):=[]
 rr:List Nat:=[]
 re:RE:=.none
 deriving Repr,Inhabited
def kU:Value→Option C
 | .int k z=>some (.int k (.lit z))
 | .bool b=>some (.bool (.tt b))
 | .pointer none=>some .nilp
 | .func (.func f) ⟨[]⟩ ⟨[]⟩=>some (.fn f)
 | .slice none 0 0=>some .nsl
 | .nilFunc=>some .nilf
 | .map none=>some .nmp
 | .string ⟨⟨[]⟩⟩=>some (.str .lnil)
 | _=>none
def gX:List Value→Option (List C)
 | []=>some []
 | v::vs=>match kU v,gX vs with
   | some c,some cs=>some (c::cs)
   | _,_=>none
def ofValue:Value→Option V
 | .agg ⟨vs⟩=>(gX vs).map .agg
 | v=>(kU v).map .one
theorem ov {v:Value} {c:C} (h:kU v=some c) (ρ:Env) (j:J):c.den ρ j=some v:=by
 unfold kU at h
 split at h<;>cases h<;>rfl
theorem kT (ρ:Env) (j:J):∀{vs:List Value} {cs:List C},gX vs=some cs→denL ρ j cs=some vs
 | [],cs,h=>by cases h; rfl
 | v::vs,cs,h=>by
   simp only[gX] at h
   cases hc:kU v with
   | none=>rw[hc] at h; cases h
   | some c=>
     cases hl:gX vs with
     | none=>rw[hc,hl] at h; cases h
     | some l=>
       rw[hc,hl] at h; cases h
       simp only[denL,ov hc,kT ρ j hl]
theorem sW {v:Value} {x:V} (h:ofValue v=some x) (ρ:Env) (j:J):x.den ρ j=some v:=by
 unfold ofValue at h
 split at h
 ·rename_i vs
  cases hc:gX vs with
  | none=>rw[hc] at h; cases h
  | some cs=>
    rw[hc] at h; cases h
    simp[V.den,kT ρ j hc]
 ·cases hc:kU v with
  | none=>rw[hc] at h; cases h
  | some c=>
    rw[hc] at h; cases h
    exact ov hc ρ j
def V.cells:V→List C
 | .one c=>[c]
 | .agg cs=>cs
 | .tup _=>[]
 | .top=>[]
def V.flat:V→Bool
 | .tup _=>false
 | .top=>false
 | _=>true
theorem pV {ρ:Env} {j:J} {c:C} {v:Value} (h:c.den ρ j=some v):v.cells = #[v]:=by
 cases c<;>simp only[C.den,Option.map_eq_some_iff] at h
 case ptr b o=>obtain⟨k,_,rfl⟩:=h; rfl
 case fp b o=>obtain⟨k,_,rfl⟩:=h; rfl
 case sl id=>obtain⟨k,_,rfl⟩:=h; rfl
 case ep id esz e off=>
  simp only[Option.bind_eq_some_iff,SV.elem,Option.map_eq_some_iff] at h
  obtain⟨k,_,a,_,rfl⟩:=h
  rfl
 case clo=>obtain⟨x,y,_,_,rfl⟩:=cC h; rfl
 case mp id=>obtain⟨k,_,rfl⟩:=h; rfl
 case yld id=>obtain⟨k,_,rfl⟩:=h; rfl
 case wn id sz lo hi mx=>obtain⟨k,_,rfl⟩:=h; rfl
 case aw b o n sz lo hi mx=>obtain⟨k,_,rfl⟩:=h; rfl
 case pe b o n sz e off=>obtain⟨k,_,rfl⟩:=h; rfl
 case itp id mid=>obtain⟨_,_,_,_,_,rfl⟩:=zK (ρ:=ρ) h; rfl
 all_goals cases h; rfl
theorem V.cells_ok {ρ:Env} {j:J} {x:V} {v:Value} (h:x.den ρ j=some v) (hf:x.flat=true):denL ρ j x.cells=some v.cells.toList:=by
 cases x with
 | one c=>
   have h':c.den ρ j=some v:=h
   simp[V.cells,denL,h',pV h']
 | agg cs=>
   simp only[V.den,Option.map_eq_some_iff] at h
   obtain⟨vs,hvs,rfl⟩:=h
   simpa[V.cells,Value.cells] using hvs
 | tup _=>cases hf
 | top=>cases hf
def C.solid:C→Bool
 | .undef=>false
 | _=>true
theorem C.solid_ok {ρ:Env} {j:J} {c:C} {v:Value} (h:c.den ρ j=some v) (hs:c.solid=true):v.oneCell'=true:=by
 cases c<;>simp only[C.den,Option.map_eq_some_iff] at h
 case ptr b o=>obtain⟨k,_,rfl⟩:=h; rfl
 case fp b o=>obtain⟨k,_,rfl⟩:=h; rfl
 case sl id=>obtain⟨k,_,rfl⟩:=h; rfl
 case ep id esz e off=>
  simp only[Option.bind_eq_some_iff,SV.elem,Option.map_eq_some_iff] at h
  obtain⟨k,_,a,_,rfl⟩:=h
  rfl
 case undef=>cases hs
 case clo=>obtain⟨x,y,_,_,rfl⟩:=cC h; rfl
 case mp id=>obtain⟨k,_,rfl⟩:=h; rfl
 case yld id=>obtain⟨k,_,rfl⟩:=h; rfl
 case wn id sz lo hi mx=>obtain⟨k,_,rfl⟩:=h; rfl
 case aw b o n sz lo hi mx=>obtain⟨k,_,rfl⟩:=h; rfl
 case pe b o n sz e off=>obtain⟨k,_,rfl⟩:=h; rfl
 case itp id mid=>obtain⟨_,_,_,_,_,rfl⟩:=zK (ρ:=ρ) h; rfl
 all_goals cases h; rfl
def bG (b:Nat):Nat→Nat→List (Nat×Nat)
 | _,0=>[]
 | o,n+1=>(b,o)::bG b (o+1) n
def bZ (b:Nat):Nat→List C→List (Nat×Nat×C)
 | _,[]=>[]
 | o,c::cs=>(b,o,c)::bZ b (o+1) cs
def eG:List C→List C→Option E
 | [],[]=>some (.tt true)
 | .int k a::l,.int k' b::r=>if aR k k' then(eG l r).map (cE (mkEq a b)) else none
 | .bool a::l,.bool b::r=>(eG l r).map (cE (wD a b))
 | _,_=>none
def aag (n:Nat) (cs:List C) (e:E):E:=match e with
 | .tt b=>.tt b
 | e=>if Nat.blt n cs.length then .beq e (.tt true) else e
theorem aaf (ρ:Env) (n:Nat) (cs:List C) (e:E):(aag n cs e).B ρ=e.B ρ:=by
 unfold aag
 split
 ·rfl
 ·split
  ·simp[E.B]
  ·rfl
def mI (n:Nat) (cs ds:List C):Option E:=(eG cs ds).map (aag n cs)
def xV:List Value→List Value→Prop
 | [],[]=>True
 | .int k _::l,.int k' _::r=>k=k'∧xV l r
 | .bool _::l,.bool _::r=>xV l r
 | _,_=>False
def eqVs:List Value→List Value→Bool
 | .int _ a::l,.int _ b::r=>(a==b)&&eqVs l r
 | .bool a::l,.bool b::r=>(a==b)&&eqVs l r
 | _,_=>true
def bv:List C→List C→Bool
 | [],[]=>true
 | .int k _::l,.int k' _::r=>aR k k'&&bv l r
 | .bool _::l,.bool _::r=>bv l r
 | _,_=>false
def aD:List Value→List C→Prop
 | [],[]=>True
 | .int k x::l,.int k' _::r=>k=k'∧inK k x=true∧aD l r
 | .bool _::l,.bool _::r=>aD l r
 | _,_=>False
def C.rng (vk:List VK):C→Bool
 | .int k e=>e.rng vk k
 | _=>true
def rngs (vk:List VK):List C→List VK→Nat→Bool
 | [],_,_=>true
 | .int k (.var m)::cs,q,n=>match(bif Nat.beq m n then q else vk.drop m) with
   | .int k'::q'=>aR k' k&&rngs vk cs q' (m+1)
   | _=>false
 | .int k e::cs,q,n=>e.rng vk k&&rngs vk cs q n
 | _::cs,q,n=>rngs vk cs q n
theorem rngs_ok {vk:List VK}:∀(cs:List C) (q:List VK) (n:Nat),q=vk.drop n→rngs vk cs q n=true→cs.all (C.rng vk)=true:=by
 intro cs
 induction cs with
 | nil=>intros; rfl
 | cons c cs ih=>
   intro q n hq h
   rw[List.all_cons,Bool.and_eq_true]
   cases c with
   | int k e=>
     cases e with
     | var m=>
       have hq':(bif Nat.beq m n then q else vk.drop m)=vk.drop m:=by
        cases hb:Nat.beq m n with
        | false=>rfl
        | true=>rw[Nat.eq_of_beq_eq_true hb]; exact hq
       simp only[rngs] at h
       rw[hq'] at h
       split at h
       ·rename_i k' q' hd
        rw[Bool.and_eq_true] at h
        have h0:vk[m]? =some (.int k'):=by
         have:=congrArg (fun l=>l[0]?) hd
         simpa using this
        have h1:q'=vk.drop (m+1):=by
         have:=congrArg List.tail hd
         simpa using this.symm
        refine⟨?_,ih q' (m+1) h1 h.2⟩
        show E.rng vk k (.var m)=true
        unfold E.rng
        rw[h0]; exact h.1
       ·cases h
     | _=>
       simp only[rngs] at h
       rw[Bool.and_eq_true] at h
       exact⟨h.1,ih q n hq h.2⟩
   | _=>exact⟨rfl,ih q n hq h⟩
theorem gg {ρ:Env} {j:J} {vk:List VK} (hv:Vk ρ vk):∀{cs zs:List C} {vs:List Value},bv cs zs=true→cs.all (C.rng vk)=true→denL ρ j cs=some vs→aD vs zs
 | [],[],vs,_,_,h=>by cases h; trivial
 | .int k a::l,.int k' b::r,vs,hk,hr,h=>by
   simp only[bv,Bool.and_eq_true] at hk
   simp only[List.all_cons,Bool.and_eq_true] at hr
   simp only[denL,C.den] at h
   cases hl:denL ρ j l with
   | none=>rw[hl] at h; cases h
   | some us=>rw[hl] at h; cases h; exact⟨ao hk.1,E.rng_ok hv a hr.1,gg hv hk.2 hr.2 hl⟩
 | .bool a::l,.bool b::r,vs,hk,hr,h=>by
   simp only[bv] at hk
   simp only[List.all_cons,Bool.and_eq_true] at hr
   simp only[denL,C.den] at h
   cases hl:denL ρ j l with
   | none=>rw[hl] at h; cases h
   | some us=>rw[hl] at h; cases h; exact gg (cs:=l) (zs:=r) hv hk hr.2 hl
theorem aq {vs:List Value} {k:IntKind} {e:E} {r:List C} (h:aD vs (.int k e::r)):∃x l,vs=.int k x::l∧inK k x=true∧aD l r:=by
 match vs,h with
 | .int k' x::l,h=>exact⟨x,l,by rw[h.1],by rw[←h.1]; exact h.2.1,h.2.2⟩
theorem bB {vs:List Value} {e:E} {r:List C} (h:aD vs (.bool e::r)):∃x l,vs=.bool x::l∧aD l r:=by
 match vs,h with
 | .bool x::l,h=>exact⟨x,l,rfl,h⟩
theorem bE {vs:List Value} (h:aD vs []):vs=[]:=by
 cases vs with
 | nil=>rfl
 | cons v l=>cases v<;>exact h.elim
theorem fw {ρ:Env} {j:J}:∀{cs ds:List C} {e:E},eG cs ds=some e→∃vs us,denL ρ j cs=some vs∧denL ρ j ds=some us∧xV vs us∧eqVs vs us=e.B ρ
 | [],[],e,h=>by cases h; exact⟨[],[],rfl,rfl,trivial,rfl⟩
 | .int k a::l,.int k' b::r,e,h=>by
   simp only[eG] at h
   split at h
   ·rename_i hk
    rw[Option.map_eq_some_iff] at h
    obtain⟨e',he,rfl⟩:=h
    obtain⟨vs,us,h1,h2,h3,h4⟩:=fw (ρ:=ρ) (j:=j) he
    refine⟨.int k (a.I ρ)::vs,.int k' (b.I ρ)::us,by simp[denL,C.den,h1],by simp[denL,C.den,h2],⟨ao hk,h3⟩,?_⟩
    simp[eqVs,h4,bN,kV]
   ·cases h
 | .bool a::l,.bool b::r,e,h=>by
   simp only[eG,Option.map_eq_some_iff] at h
   obtain⟨e',he,rfl⟩:=h
   obtain⟨vs,us,h1,h2,h3,h4⟩:=fw (ρ:=ρ) (j:=j) he
   refine⟨.bool (a.B ρ)::vs,.bool (b.B ρ)::us,by simp[denL,C.den,h1],by simp[denL,C.den,h2],h3,?_⟩
   simp[eqVs,h4,bN,pD]
theorem tu {ρ:Env} {j:J} {n:Nat} {cs ds:List C} {e:E} (h:mI n cs ds=some e):∃vs us,denL ρ j cs=some vs∧denL ρ j ds=some us∧xV vs us∧eqVs vs us=e.B ρ:=by
 unfold mI at h
 rw[Option.map_eq_some_iff] at h
 obtain⟨e',he,rfl⟩:=h
 obtain⟨vs,us,h1,h2,h3,h4⟩:=fw (ρ:=ρ) (j:=j) he
 exact⟨vs,us,h1,h2,h3,by rw[aaf]; exact h4⟩
def eR:E→Nat→Option E
 | .lapp a r,i=>match aY a with
   | .lit z=>if dG z i then some r else eR a i
   | _=>eR a i
 | .lcat a b,i=>match aY a with
   | .lit z=>if decide (z≤(i:Int)) then eR b (i-z.toNat) else eR a i
   | _=>eR a i
 | _,_=>none
def kv:E→Nat→Option E
 | .cons a _,0=>some a
 | .cons _ t,c+1=>kv t c
 | .consb _ t,c+1=>kv t c
 | _,_=>none
def oT:E→Nat→Option E
 | .consb b _,0=>some b
 | .cons _ t,c+1=>oT t c
 | .consb _ t,c+1=>oT t c
 | _,_=>none
def rJ (l e:E):Option E:=match e with
 | .lit (.ofNat i)=>eR l i
 | _=>none
def oB (l e:E) (c:Nat):E:=match(rJ l e).bind (kv · c) with
 | some x=>x
 | none=>.get l e c
def wA (l e:E) (c:Nat):E:=match(rJ l e).bind (oT · c) with
 | some x=>x
 | none=>.getb l e c
theorem vW (ρ:Env):∀(l:E) (i:Nat) (r:E),eR l i=some r→(l.R ρ)[i]? =some (r.L ρ):=by
 intro l
 induction l<;>intro i r h<;>simp only[eR] at h<;>first | cases h | skip
 case lapp a r0 ih _=>
  have left:eR a i=some r→((E.lapp a r0).R ρ)[i]? =some (r.L ρ):=fun h=>by
   have h1:=ih i r h
   have hlt:=(List.getElem?_eq_some_iff.1 h1).1
   simp only[E.R]
   rw[List.getElem?_append_left hlt]; exact h1
  split at h
  ·rename_i z hz
   split at h
   ·rename_i hzi
    cases h
    have h1:=aU ρ a
    rw[hz,bH hzi] at h1
    simp only[E.I] at h1
    have h2:(a.R ρ).length=i:=by omega
    simp only[E.R]
    rw[List.getElem?_append_right (by omega),h2]
    simp
   ·exact left h
  ·exact left h
 case lcat a b iha ihb=>
  have left:eR a i=some r→((E.lcat a b).R ρ)[i]? =some (r.L ρ):=fun h=>by
   have h1:=iha i r h
   have hlt:=(List.getElem?_eq_some_iff.1 h1).1
   simp only[E.R]
   rw[List.getElem?_append_left hlt]; exact h1
  split at h
  ·rename_i z hz
   split at h
   ·rename_i hzi
    have hzi:=of_decide_eq_true hzi
    have h1:=aU ρ a
    rw[hz] at h1
    simp only[E.I] at h1
    have h2:=ihb _ r h
    simp only[E.R]
    rw[List.getElem?_append_right (by omega),show i-(a.R ρ).length=i-z.toNat by omega]
    exact h2
   ·exact left h
  ·exact left h
theorem tF (ρ:Env):∀(r:E) (c:Nat) (x:E),kv r c=some x→(r.L ρ).getD c 0=x.I ρ:=by
 intro r
 induction r<;>intro c x h<;>cases c<;>simp only[kv] at h<;>first | cases h | skip
 ·rfl
 ·rename_i iht c; simpa[E.L] using iht c x h
 ·rename_i iht c; simpa[E.L] using iht c x h
theorem xr (ρ:Env):∀(r:E) (c:Nat) (x:E),oT r c=some x→(r.L ρ).getD c 0=b2i (x.B ρ):=by
 intro r
 induction r<;>intro c x h<;>cases c<;>simp only[oT] at h<;>first | cases h | skip
 ·rename_i iht c; simpa[E.L] using iht c x h
 ·rfl
 ·rename_i iht c; simpa[E.L] using iht c x h
theorem oE {ρ:Env} {l e r:E} (h:rJ l e=some r) (c:Nat):gt (l.R ρ) (e.I ρ) c=(r.L ρ).getD c 0:=by
 unfold rJ at h
 split at h
 ·rename_i i
  have h1:=vW ρ l i r h
  show((l.R ρ).getD i []).getD c 0=_
  rw[show(l.R ρ).getD i []=r.L ρ by rw[List.getD_eq_getElem?_getD,h1]; rfl]
 ·cases h
theorem wC (ρ:Env) (l e:E) (c:Nat):(oB l e c).I ρ=gt (l.R ρ) (e.I ρ) c:=by
 unfold oB
 split
 ·rename_i x hx
  rw[Option.bind_eq_some_iff] at hx
  obtain⟨r,h1,h2⟩:=hx
  rw[oE h1,tF ρ r c x h2]
 ·rfl
theorem yK (ρ:Env) (l e:E) (c:Nat):(wA l e c).B ρ=(gt (l.R ρ) (e.I ρ) c==1):=by
 unfold wA
 split
 ·rename_i x hx
  rw[Option.bind_eq_some_iff] at hx
  obtain⟨r,h1,h2⟩:=hx
  rw[oE h1,xr ρ r c x h2]
  cases x.B ρ<;>rfl
 ·rfl
def rowC (l e:E) (c:Nat):CE→C
 | some k=>.int k (oB l e c)
 | none=>.bool (wA l e c)
def kC (l e:E):Nat→List CE→List C
 | _,[]=>[]
 | c,k::ks=>rowC l e c k::kC l e (c+1) ks
def eQ (vk:List VK) (l e:E):Nat→List CE→List C→Option E
 | _,_,[]=>some l
 | c,some k::ks,.int k' x::cs=>if aR k' k&&x.rng vk k then eQ vk (.lset l e c x) e (c+1) ks cs else none
 | c,none::ks,.bool x::cs=>eQ vk (.lsetb l e c x) e (c+1) ks cs
 | _,_,_=>none
def rowE (vk:List VK):List CE→List C→Option E
 | [],[]=>some .nil
 | some k::ks,.int k' x::cs=>if aR k' k&&x.rng vk k then(rowE vk ks cs).map (.cons x) else none
 | none::ks,.bool x::cs=>(rowE vk ks cs).map (.consb x)
 | _,_=>none
def abP (r l:E):E:=match l with
 | .lnil=>.lapp .lnil r
 | l=>.lcat (.lapp .lnil r) l
theorem abO (ρ:Env) (r l:E):(abP r l).R ρ=r.L ρ::l.R ρ:=by unfold abP; split<;>simp[E.R]
def sP (vk:List VK) (ks:List CE):Nat→List C→Option E
 | 0,[]=>some .lnil
 | n+1,cs=>match rowE vk ks (cs.take ks.length),sP vk ks n (cs.drop ks.length) with
   | some r,some l=>some (abP r l)
   | _,_=>none
 | 0,_::_=>none
def ksOf:List C→Option (List CE)
 | []=>some []
 | .int k _::cs=>(ksOf cs).map (some k::·)
 | .bool _::cs=>(ksOf cs).map (none::·)
 | _=>none
def fA:CE→Int→Value
 | some k,x=>.int k x
 | none,x=>.bool (x==1)
def rowV:List CE→List Int→List Value
 | k::ks,x::xs=>fA k x::rowV ks xs
 | _,_=>[]
def flat (ks:List CE) (L:List (List Int)):List Value:=L.flatMap (rowV ks)
def RdRow (w:World) (esz:Nat) (s:SV) (xs:List Value):Prop:=
 xs.length=s.n*esz∧s.n≤s.c∧s.c≤maxLen∧(s.a=none→s.n=0∧s.c=0)∧∀a,s.a=some a→∀i u,xs[i]? =some u→w.cell? (a.add i)=some u
def SV.blk (s:SV) (o:Bool):Option Nat:=if(o ||!Nat.beq s.c 0)=true then s.v.ownBlock else none
theorem ap {s:SV} {o:Bool} {k:Nat} (h:s.blk o=some k):s.v.ownBlock=some k:=by
 unfold SV.blk at h
 split at h
 ·exact h
 ·cases h
theorem iD {s:SV} {o:Bool} {k:Nat} (ho:o=true) (h:s.v.ownBlock=some k):s.blk o=some k:=by rw[ho]; exact h
theorem ba {s:SV} {o:Bool} {k:Nat} (h:s.blk false=some k):s.blk o=some k:=by
 cases o with
 | false=>exact h
 | true=>exact ap h
theorem kx {s:SV} {k:Nat} (hc:s.c≠0) (h:s.v.ownBlock=some k):s.blk false=some k:=by
 unfold SV.blk
 have:Nat.beq s.c 0=false:=by cases hb:Nat.beq s.c 0 with
  | false=>rfl
  | true=>exact absurd (Nat.eq_of_beq_eq_true hb) hc
 simpa[this] using h
def eP (vk:List VK) (rw:Nat→Option RowOb) (ks:List CE) (ty:Nat):C→Option E
 | .sl id=>match rw id with
   | some r=>if bk r.ks ks&&(Nat.beq r.ty ty&&r.l.lok vk ks) then some r.l else none
   | none=>none
 | .nsl=>some .lnil
 | _=>none
def encC (vk:List VK) (rw:Nat→Option RowOb):CK→C→E→Option E
 | .int k,.int k' e,t=>if aR k k'&&e.rng vk k then some (.cons e t) else none
 | .bool,.bool e,t=>some (.consb e t)
 | .fn g,.fn g',t=>if Nat.beq g g' then some t else none
 | .lit k z,.int k' (.lit z'),t=>if aR k k'&&dG z z' then some t else none
 | .sl ks ty,c,t=>(eP vk rw ks ty c).map fun l=>.consl l t
 | .nilf,.nilf,t=>some t
 | .any,_,t=>some t
 | _,_,_=>none
def oN (vk:List VK) (rw:Nat→Option RowOb):List CK→List C→E→Option E
 | [],[],t=>some t
 | k::ks,c::cs,t=>(oN vk rw ks cs t).bind (encC vk rw k c)
 | _,_,_=>none
def abK (vk:List VK) (rw:Nat→Option RowOb):CK→C→E→Option E
 | .int k,.int k' e,t=>if aR k k' then some (.cons e t) else none
 | .bool,.bool e,t=>some (.consb e t)
 | .fn g,.fn g',t=>if Nat.beq g g' then some t else none
 | .lit k z,.int k' (.lit z'),t=>if aR k k'&&dG z z' then some t else none
 | .sl ks ty,c,t=>(eP vk rw ks ty c).map fun l=>.consl l t
 | .nilf,.nilf,t=>some t
 | .any,_,t=>some t
 | _,_,_=>none
theorem ze {vk:List VK} {rw:Nat→Option RowOb} {k:CK} {c:C} {t e:E} (hc:c.rng vk=true) (h:abK vk rw k c t=some e):encC vk rw k c t=some e:=by
 unfold abK at h
 split at h
 ·rename_i k1 k2 x
  split at h
  ·rename_i h1
   obtain rfl:=ao h1
   have h2:x.rng vk k1=true:=hc
   simp[encC,h1,h2]; exact Option.some.inj h
  ·cases h
 all_goals first | exact h | cases h
def zd (vk:List VK) (rw:Nat→Option RowOb):List CK→List C→E→Option E
 | [],[],t=>some t
 | k::ks,c::cs,t=>(zd vk rw ks cs t).bind (abK vk rw k c)
 | _,_,_=>none
theorem se {vk:List VK} {rw:Nat→Option RowOb}:∀{ks:List CK} {cs:List C} {t e:E},cs.all (C.rng vk)=true→zd vk rw ks cs t=some e→oN vk rw ks cs t=some e
 | [],[],_,_,_,h=>h
 | k::ks,c::cs,t,e,hr,h=>by
   simp only[List.all_cons,Bool.and_eq_true] at hr
   simp only[zd,Option.bind_eq_some_iff] at h
   obtain⟨e1,h1,h2⟩:=h
   simp only[oN,Option.bind_eq_some_iff]
   exact⟨e1,se hr.2 h1,ze hr.1 h2⟩
def encL (vk:List VK) (rw:Nat→Option RowOb) (ks:List CK) (cs:List C) (t:E):Option E:=bif rngs vk cs vk 0 then zd vk rw ks cs t else none
theorem oM {vk:List VK} {rw:Nat→Option RowOb} {ks:List CK} {cs:List C} {t e:E} (h:encL vk rw ks cs t=some e):oN vk rw ks cs t=some e:=by
 unfold encL at h
 cases hr:rngs vk cs vk 0 with
 | false=>rw[hr] at h; cases h
 | true=>rw[hr] at h; exact se (rngs_ok cs vk 0 rfl hr) h
def encV (vk:List VK) (vw:Vw):Sh→V→E→Option E
 | .agg ks,.agg cs,t=>encL vk vw.tw ks cs t
 | .one k,.one c,t=>encC vk vw.tw k c t
 | .ptr ks,.one (.ptr b 0),t=>if 0<ks.length then(vw.row b 0 ks.length).bind fun cs=>encL vk vw.tw ks cs t else none
 | .ptr ks,.one (.fp b 0),t=>(vw.fb b).bind fun cs=>if cs.all C.solid then encL vk vw.tw ks cs t else none
 | _,_,_=>none
def encA (vk:List VK) (vw:Vw):List Sh→List V→Option E
 | [],[]=>some .nil
 | s::ss,v::vs=>(encA vk vw ss vs).bind (encV vk vw s v)
 | _,_=>none
def cS:List C→List Nat
 | []=>[]
 | .sl id::cs=>id::cS cs
 | _::cs=>cS cs
def dy (vw:Vw):List Sh→List V→List Nat
 | .ptr ks::ss,.one (.ptr b 0)::vs=>(match vw.row b 0 ks.length with | some cs=>cS cs | none=>[])++dy vw ss vs
 | .ptr _::ss,.one (.fp b 0)::vs=>(match vw.fb b with | some cs=>cS cs | none=>[])++dy vw ss vs
 | _::ss,v::vs=>cS v.cells++dy vw ss vs
 | _,_=>[]
def mQ:List Sh→List V→List (Nat×Nat)
 | .ptr ks::ss,.one (.ptr b 0)::vs=>bG b 0 ks.length++mQ ss vs
 | _::ss,_::vs=>mQ ss vs
 | _,_=>[]
def lu (row:List Int):List Value:=((row.drop 3).take (row.getD 2 0).toNat).map fun x=>.int .u64 x
def bK (row:List Int) (x:SV):List Value:=[.int .i64 (row.getD 0 0),x.v,.int .u64 (row.getD 1 0)]
def bW:List (List Int)→List SV→List Value
 | r::L,x::xs=>bK r x++bW L xs
 | _,_=>[]
def isCl:Obj→Bool
 | .cells _ _ _=>true
 | _=>false
structure EvIn (w:World) (row:List Int) (x:SV):Prop where
 n:(x.n:Int)=row.getD 2 0
 most:x.n≤5
 rest:(row.drop 3).drop x.n=List.replicate (5-x.n) 0
 rd:RdRow w 1 x (lu row)
 blk:∀k,x.blk false=some k→∃o,w.heap[k]? =some o∧isCl o=true
def TRow (w:World) (ks:List CE) (s:SV) (L:List (List Int)):Prop:=
 match kdOf ks with
 | .ev=>∃ins:List SV,ins.length=L.length∧RdRow w 3 s (bW L ins)∧∀(i:Nat) row x,L[i]? =some row→ins[i]? =some x→EvIn w row x
 | _=>RdRow w ks.length s (flat ks L)
def pY (w:World) (k:CK) (xs:List Dt) (v:Value) (r:List Dt):Prop:=
 match k with
 | .int k=>∃x,xs=.z x::r∧v=.int k x∧inK k x=true
 | .bool=>∃b,xs=.z (b2i b)::r∧v=.bool b
 | .fn g=>xs=r∧v=.func (.func g) #[] #[]
 | .lit k z=>xs=r∧v=.int k z
 | .sl ks _=>∃L s,xs=.l L::r∧v=s.v∧s.n=L.length∧TRow w ks s L∧RowsIn ks L∧∀k,s.blk false=some k→k<w.heap.size
 | .nilf=>xs=r∧v=.nilFunc
 | .any=>xs=r
def eX (w:World):List CK→List Dt→List Value→List Dt→Prop
 | [],xs,vs,r=>xs=r∧vs=[]
 | k::ks,xs,vs,r=>∃v us r',vs=v::us∧pY w k xs v r'∧eX w ks r' us r
def iG (w:World):List Sh→List Dt→List Value→Prop
 | [],xs,vals=>xs=[]∧vals=[]
 | .one c::ss,xs,vals=>∃v vs r,vals=v::vs∧pY w c xs v r∧iG w ss r vs
 | .agg cs::ss,xs,vals=>∃us vs r,vals=.agg us.toArray::vs∧eX w cs xs us r∧iG w ss r vs
 | .ptr cs::ss,xs,vals=>∃kk us vs r,vals=.pointer (some ⟨kk,0,none⟩)::vs∧eX w cs xs us r∧kk<w.heap.size∧(∀o u,us[o]? =some u→w.cell? ⟨kk,o,none⟩=some u)∧iG w ss r vs
def ckIn:CK→List Dt→List Dt→Prop
 | .int k,xs,r=>∃x,xs=.z x::r∧inK k x=true
 | .bool,xs,r=>∃b,xs=.z (b2i b)::r
 | .sl ks _,xs,r=>∃L,xs=.l L::r∧∀x∈L,ar ks x=true
 | _,xs,r=>xs=r
def tC:List CK→List Dt→List Dt→Prop
 | [],xs,r=>xs=r
 | k::ks,xs,r=>∃r',ckIn k xs r'∧tC ks r' r
def xD:List Sh→List Dt→Prop
 | [],xs=>xs=[]
 | s::ss,xs=>∃r,tC s.cks xs r∧xD ss r
structure OwnRow (w:World) (base:Nat) (ty:Nat) (ks:List CE) (s:SV) (L:List (List Int)):Prop where
 n:s.n=L.length
 own:w.ownsRow base ty ks.length s.v s.n (flat ks L)
 rows:RowsIn ks L
 pos:0<ks.length
def ax (v0:Nat):Nat→Nat→List CK→List C
 | _,_,[]=>[]
 | n,id,.int k::ks=>.int k (.var (v0+n))::ax v0 (n+1) id ks
 | n,id,.bool::ks=>.bool (.bvar (v0+n))::ax v0 (n+1) id ks
 | n,id,.fn g::ks=>.fn g::ax v0 (n+1) id ks
 | n,id,.lit _ _::ks=>.undef::ax v0 (n+1) id ks
 | n,id,.sl _ _::ks=>.sl id::ax v0 (n+1) (id+1) ks
 | n,id,.nilf::ks=>.nilf::ax v0 (n+1) id ks
 | n,id,.any::ks=>.undef::ax v0 (n+1) id ks
def CK.isSl:CK→Bool
 | .sl _ _=>true
 | _=>false
def aV (v0:Nat):Nat→Nat→List Sh→List (Bool×List C)
 | _,_,[]=>[]
 | n,id,.one k::l=>(false,ax v0 n id [k])::aV v0 (n+1) (if k.isSl then id+1 else id) l
 | n,id,.agg ks::l=>(true,ax v0 n id ks)::aV v0 (n+ks.length) (id+(ks.filter CK.isSl).length) l
 | n,id,.ptr ks::l=>(true,[.undef])::aV v0 (n+ks.length) id l
def eS (res:List Sh) (tup:Bool) (v0 nid:Nat):V:=
 if tup then .tup (aV v0 0 nid res) else
 match aV v0 0 nid res with
 | [(true,cs)]=>.agg cs
 | [(false,[c])]=>.one c
 | _=>.one .undef
def resV (s:Sm) (v0 nid:Nat):V:=eS s.res s.tup v0 nid
def aN (v0:Nat):Nat→List CK→List RowOb
 | _,[]=>[]
 | n,.sl ks ty::l=>⟨ks,ty,.lvar (v0+n),true,kdOf ks⟩::aN v0 (n+1) l
 | n,_::l=>aN v0 (n+1) l
section
variable {ρ:Env} {j:J} {vk:List VK}
end
def dY:List CK→List Dt→Prop
 | [],_=>True
 | .int k::ks,.z x::ds=>inK k x=true∧dY ks ds
 | .int _::_,_=>False
 | .sl ks0 _::ks,.l L::ds=>RowsIn ks0 L∧dY ks ds
 | .sl _ _::_,_=>False
 | _::ks,_::ds=>dY ks ds
 | _::_,[]=>False
structure TIok (P:Program) (t:Nat) (i:TI):Prop where
 agg:∀w,(isAgg t).run P w=.ok i.agg w
 size:∀w,(sizeOf t).run P w=.ok i.size w
 zero:∃z,(∀w,(zeroValue t).run P w=.ok z w)∧∀(ρ:Env) j,denL ρ j i.zero=some z.cells.toList
 fieldAt:∀f off ft,i.fields[f]? =some (off,ft)→∀w (a:Addr),(Instr.fieldAt t (.pointer (some a)) f).run P w=.ok (.pointer (some (a.add off))) w
 field:∀f off ft,i.fields[f]? =some (off,ft)→∀w cs,(Instr.field t (.agg cs) f).run P w=(part ft cs off).run P w
 arr:∀n e,i.arr=some (n,e)→P.underlying t=some (.array n e)
 str:i.agg=true→i.arr=none→∃fs,P.underlying t=some (.struct fs)∧fs.toList.map (fun f=>(f.offset,f.type))=i.fields
 ik:∀k,i.ik=some k→P.underlying t=some (.int k)
 und:∃d,P.underlying t=some d
 eq:i.eqok=true→∀vs us,aD vs i.zero→aD us i.zero→∀w,(Op.equal t (.agg vs.toArray) (.agg us.toArray)).run P w=.ok (eqVs vs us) w
 grd:i.eqok=true→P.eqGuardType P.depth t=false
 isb:i.isb=true→P.underlying t=some .bool
 sle:∀e,i.sle=some e→P.underlying t=some (.slice e)
 fnt:i.fnt=true→∀f a b w,(Op.equal t (.func (.func f) a b) .nilFunc).run P w=.ok false w∧(Op.equal t .nilFunc .nilFunc).run P w=.ok true w
 mapt:∀k e,i.mapt=some (k,e)→P.underlying t=some (.map k e)
 ptr:i.kd=1→∃e,P.underlying t=some (.pointer e)
 stg:i.kd=2→P.underlying t=some .string
 key:i.keyok=true→∀vs,aD vs i.zero→∀b w,(Instr.checkKey b 10000 t (.agg vs.toArray)).run P w=.ok () w
 zsh:∀z,(∀w,(zeroValue t).run P w=.ok z w)→(i.agg=true→z=.agg z.cells)∧(i.agg=false→z.cells = #[z])
 info:∃inf z,P.info? t=some inf∧inf.size=i.size∧inf.bytes=i.bytes∧inf.zero=some z∧z.cells.toList.length=i.size∧∀(ρ:Env) j,denL ρ j i.zero=some z.cells.toList
def lm (vk:List VK) (vw:Vw) (f:Nat) (args:List V):List Sm→Option (Sm×E)
 | []=>none
 | s::l=>if Nat.beq s.f f then(match encA vk vw s.args args with | some e=>some (s,e) | none=>lm vk vw f args l) else lm vk vw f args l
theorem kj {vk:List VK} {vw:Vw} {f:Nat} {args:List V} {s:Sm} {e:E}:∀{l:List Sm},lm vk vw f args l=some (s,e)→s∈l∧s.f=f∧encA vk vw s.args args=some e
 | x::l,h=>by
   simp only[lm] at h
   split at h
   ·rename_i hf
    split at h
    ·rename_i e' he
     cases h
     exact⟨List.mem_cons_self,Nat.eq_of_beq_eq_true hf,he⟩
    ·have:=kj h
     exact⟨List.mem_cons_of_mem _ this.1,this.2⟩
   ·have:=kj h
    exact⟨List.mem_cons_of_mem _ this.1,this.2⟩
def mE (key:Nat) (e:E):List (Nat×E×Nat)→Option Nat
 | []=>none
 | (m,x,v0)::l=>if Nat.beq m key&&x.same e then some v0 else mE key e l
theorem ln {key:Nat} {e:E} {v0:Nat}:∀{l:List (Nat×E×Nat)},mE key e l=some v0→(key,e,v0)∈l
 | (m,x,u)::l,h=>by
   simp only[mE] at h
   split at h
   ·rename_i hm
    simp only[Bool.and_eq_true] at hm
    cases h
    rw[Nat.eq_of_beq_eq_true hm.1,E.same_eq hm.2]
    exact List.mem_cons_self
   ·exact List.mem_cons_of_mem _ (ln h)
def oS:CK→VK
 | .int k=>.int k
 | .sl ks _=>.list ks
 | _=>.bool
def evL (ev:Operand→Option V):List Operand→Option (List V)
 | []=>some []
 | x::l=>match ev x,evL ev l with
   | some v,some vs=>some (v::vs)
   | _,_=>none
def capE (ev:Operand→Option V):List Operand→Option (List (Option (Bool×Nat×Nat)))
 | []=>some []
 | x::l=>match ev x,capE ev l with
   | some (.one (.ptr b o)),some vs=>some (some (true,b,o)::vs)
   | some (.one (.fp b o)),some vs=>some (some (false,b,o)::vs)
   | some (.one .nilp),some vs=>some (none::vs)
   | _,_=>none
def abR (cx:Cx) (vw:Vw) (g:Nat) (args:List V) (kw:Kw) (k:Eff→Kw→Tr):Tr:=
 match lm kw.vk vw g args cx.sm with
 | none=>.stuck (100000+g)
 | some (s,e)=>match s.inp with
   | some (ks,ty)=>match args with
     | [.one (.sl id)]=>match vw.sw id with
       | some r=>if r.own&&(bk r.ks ks&&Nat.beq r.ty ty) then
        .call s.key [.sl ks ty] (.consl r.l .nil) kw.vk.length (k {val:=.tup [],rr:=[id],re:=.set id {r with l:=.lvar kw.vk.length}} {kw with vk:=kw.vk++[.list ks]})
         else .stuck 170
       | none=>.stuck 171
     | _=>.stuck 172
   | none=>match mE s.key e kw.log with
   | some v0=>k {val:=resV s v0 vw.nid,rd:=mQ s.args args,rr:=dy vw s.args args,re:=.mk (aN v0 0 s.ks)} kw
   | none=>.call s.key s.ks e kw.vk.length (k {val:=resV s kw.vk.length vw.nid,rd:=mQ s.args args,rr:=dy vw s.args args,re:=.mk (aN kw.vk.length 0 s.ks)} {kw with log:=(s.key,e,kw.vk.length)::kw.log,vk:=kw.vk++s.ks.map oS})
def mmK (f:E→E→E) (k0:IntKind):E→List V→Option E
 | e,[]=>some e
 | e,.one (.int k x)::l=>if aR k k0 then mmK f k0 (f e x) l else none
 | _,_=>none
def aah (cx:Cx):Bool:=(af 999999 cx.hints).isSome
def abX (cx:Cx):Nat:=if aah cx then 3 else 12
def binK (cx:Cx) (op:BinOp) (xt:Nat) (x y:V) (kw:Kw) (k:Eff→Kw→Tr):Tr:=
 match x,y with
 | .one (.int k1 a),.one (.int k2 b)=>
   match op with
   | .shl | .shr=>
     if k2.signed then decK (mkLt b (.lit 0)) (fun neg kw=>if neg then .panic else k {val:=.one (.int k1 (eg op k1 a b))} kw) kw
     else if b.rng kw.vk k2 then k {val:=.one (.int k1 (eg op k1 a b))} kw else .stuck 11
   | _=>
     if aR k1 k2 then
      match op with
      | .add | .sub | .mul | .and | .or | .xor | .andNot=>k {val:=.one (.int k1 (eg op k1 a b))} kw
      | .quo | .rem=>decK (mkEq b (.lit 0)) (fun z kw=>if z then .panic else k {val:=.one (.int k1 (eg op k1 a b))} kw) kw
      | .eql=>k {val:=.one (.bool (mkEq a b))} kw
      | .neq=>k {val:=.one (.bool (bL (mkEq a b)))} kw
      | .lss=>k {val:=.one (.bool (mkLt a b))} kw
      | .leq=>k {val:=.one (.bool (bL (mkLt b a)))} kw
      | .gtr=>k {val:=.one (.bool (mkLt b a))} kw
      | .geq=>k {val:=.one (.bool (bL (mkLt a b)))} kw
      | _=>.stuck 12
     else .stuck 13
 | .one (.bool a),.one (.bool b)=>
   match op with
   | .eql=>match af xt cx.ty with
     | some i=>if i.isb then k {val:=.one (.bool (wD a b))} kw else .stuck 14
     | none=>.stuck 14
   | .neq=>match af xt cx.ty with
     | some i=>if i.isb then k {val:=.one (.bool (bL (wD a b)))} kw else .stuck 14
     | none=>.stuck 14
   | _=>.stuck 15
 | .one (.clo _ _ _),.one .nilf=>
   match af xt cx.ty with
   | some i=>if i.fnt then
    match op with
    | .eql=>k {val:=.one (.bool (.tt false))} kw
    | .neq=>k {val:=.one (.bool (.tt true))} kw
    | _=>.stuck 51
     else .stuck 52
   | none=>.stuck 52
 | .one (.fn _),.one .nilf | .one .nilf,.one .nilf=>
   match af xt cx.ty with
   | some i=>if i.fnt then
    match op,x with
    | .eql,.one .nilf=>k {val:=.one (.bool (.tt true))} kw
    | .neq,.one .nilf=>k {val:=.one (.bool (.tt false))} kw
    | .eql,_=>k {val:=.one (.bool (.tt false))} kw
    | .neq,_=>k {val:=.one (.bool (.tt true))} kw
    | _,_=>.stuck 51
     else .stuck 52
   | none=>.stuck 52
 | .agg cs,.agg ds=>
   match af xt cx.ty,mI (abX cx) cs ds with
   | some i,some e=>
     if i.eqok&&((bv cs i.zero&&rngs kw.vk cs kw.vk 0)&&(bv ds i.zero&&rngs kw.vk ds kw.vk 0)) then
      match op with
      | .eql=>k {val:=.one (.bool e)} kw
      | .neq=>k {val:=.one (.bool (bL e))} kw
      | _=>.stuck 16
     else .stuck 17
   | _,_=>.stuck 18
 | _,_=>.stuck 19
def mj (e:E) (n:Nat) (k:Nat→Kw→Tr):Nat→Kw→Tr
 | 0,_=>.panic
 | m+1,kw=>decK (mkEq e (.lit (n-(m+1):Nat))) (fun b kw=>if b then k (n-(m+1)) kw else mj e n k m kw) kw
def sV (cx:Cx) (ft:Nat) (cs:List C) (off:Nat):Option V:=
 match af ft cx.ty with
 | some i=>if i.agg then(if off+i.size≤cs.length then some (.agg ((cs.drop off).take i.size)) else none) else(cs[off]?).map .one
 | none=>none
def setRow:List C→Nat→List C→List C
 | cs,_,[]=>cs
 | cs,off,v::r=>setRow (cs.set off v) (off+1) r
def kF (pl:Nat→Option (Nat×Nat)):List C→List (Nat×V)→Option (List C)
 | cs,[]=>some cs
 | cs,(i,v)::l=>match pl i with
   | some (off,size)=>if v.flat&&(Nat.beq v.cells.length size&&decide (off+size≤cs.length)) then kF pl (setRow cs off v.cells) l else none
   | none=>none
def evP (ev:Operand→Option V):List (Nat×Operand)→Option (List (Nat×V))
 | []=>some []
 | (i,x)::l=>match ev x,evP ev l with
   | some v,some vs=>some ((i,v)::vs)
   | _,_=>none
def iV (ty:List (Nat×TI)):List (Nat×Nat)→Option (List (Nat×Nat))
 | []=>some []
 | (off,ft)::l=>match af ft ty,iV ty l with
   | some i,some r=>some ((off,i.size)::r)
   | _,_=>none
def xw (cx:Cx) (t:Nat) (parts:List (Nat×V)):Option V:=
 match af t cx.ty with
 | some i=>match i.arr with
   | some (_,et)=>match af et cx.ty with
     | some ie=>(kF (fun m=>some (m*ie.size,ie.size)) i.zero parts).map .agg
     | none=>none
   | none=>if i.agg then(match iV cx.ty i.fields with
     | some pl=>(kF (fun m=>pl[m]?) i.zero parts).map .agg
     | none=>none) else none
 | none=>none
def E.isLit:E→Bool
 | .lit _=>true
 | _=>false
def inR (e:E) (n:Nat):E:=cE (bL (mkLt e (.lit 0))) (mkLt e (.lit n))
def colE (k:IntKind) (sz c:Nat):Nat→List C→Option E
 | 0,_=>some .nil
 | n+1,cs=>match cs[c]?,colE k sz c n (cs.drop sz) with
   | some (.int k' a),some t=>if aR k k' then some (.cons a t) else none
   | _,_=>none
def pX (e:E) (n sz:Nat) (cs:List C):Nat→Nat→Option (List C)
 | _,0=>some []
 | c,m+1=>match cs[c]? with
   | some (.int k _)=>match colE k sz c n cs,pX e n sz cs (c+1) m with
     | some l,some r=>some (.int k (.nth e l)::r)
     | _,_=>none
   | _=>none
def setI (c:E):Nat→List C→List C→Option (List C)
 | off+1,x::xs,vc=>(setI c off xs vc).map (x::·)
 | 0,xs,[]=>some xs
 | 0,.int k a::xs,.int k' x::vc=>if aR k k' then(setI c 0 xs vc).map (.int k (.ite c x a)::·) else none
 | _,_,_=>none
def iteR (e:E) (off sz:Nat) (vc:List C):Nat→Nat→List C→Option (List C)
 | _,0,cs=>some cs
 | m,n+1,cs=>match setI (.eq e (.lit m)) off (cs.take sz) vc,iteR e off sz vc (m+1) n (cs.drop sz) with
   | some a,some b=>some (a++b)
   | _,_=>none
def inB (e l:E):E:=cE (bL (mkLt e (.lit 0))) (mkLt e (aY l))
def lenE (vk:List VK) (l:E):E:=match aY l with
 | .lit z=>.lit z
 | e=>if e.rng vk .i64 then e else .conv .i64 e
def catE (a b:E):E:=match b with
 | .lapp .lnil r=>.lapp a r
 | b=>match a with | .lnil=>b | a=>.lcat a b
def bigB:Int:=1073741824
def opK (cx:Cx) (vw:Vw) (op:Op) (kw:Kw) (k:Eff→Kw→Tr):Tr:=
 match op with
 | .move x | .assign x=>match vw.ev x with
   | some v=>k {val:=v} kw
   | none=>.stuck 1
 | .alloc t=>match af t cx.ty with
   | some i=>k {val:=.one (.ptr vw.nid 0),al:=some (i.zero,t)} kw
   | none=>.stuck 2
 | .box t x=>match vw.ev x with
   | some v=>if v.flat then k {val:=.one (.ptr vw.nid 0),al:=some (v.cells,t)} kw else .stuck 3
   | none=>.stuck 3
 | .load t x=>match vw.ev x,af t cx.ty with
   | some (.one (.ptr b o)),some i=>
     if i.agg then(match vw.row b o i.size with
      | some cs=>k {val:=.agg cs,rd:=bG b o i.size} kw
      | none=>.stuck 4)
     else(match vw.ld b o with
      | some c=>k {val:=.one c,rd:=[(b,o)]} kw
      | none=>.stuck 4)
   | some (.one (.fp b o)),some i=>
     if i.agg then(match(vw.fb b).bind fun cs=>seg cs o i.size with
      | some cs=>if cs.all C.solid then k {val:=.agg cs} kw else .stuck 226
      | none=>.stuck 4)
     else(match(vw.fb b).bind (·[o]?) with
      | some c=>if c.solid then k {val:=.one c} kw else .stuck 226
      | none=>.stuck 4)
   | some (.one (.pe b o n sz e off)),some i=>match vw.row b o (n*sz) with
     | some cs=>if decide (off+i.size≤sz) then
      decK (inR e n) (fun ok kw=>if ok then
       (match pX e n sz cs off i.size with
       | some ds=>if i.agg then k {val:=.agg ds,rd:=bG b o (n*sz)} kw else(match ds with
         | [d]=>k {val:=.one d,rd:=bG b o (n*sz)} kw
         | _=>.stuck 160)
       | none=>.stuck 161)
       else .stuck 162) kw
       else .stuck 163
     | none=>.stuck 164
   | some (.one (.ep id esz e off)),some i=>match vw.sw id with
     | some r=>if Nat.beq r.ks.length esz&&decide (off+i.size≤esz) then
      decK (inB e r.l) (fun b kw=>if b then
       (if i.agg then k {val:=.agg (kC r.l e off ((r.ks.drop off).take i.size)),rr:=[id]} kw
       else match r.ks[off]? with
        | some ck=>k {val:=.one (rowC r.l e off ck),rr:=[id]} kw
        | none=>.stuck 53)
       else .stuck 54) kw
       else .stuck 55
     | none=>.stuck 56
   | _,_=>.stuck 5
 | .store t x y=>match vw.ev x,vw.ev y,af t cx.ty with
   | some (.one (.ptr b o)),some v,some i=>
     if v.flat&&(Nat.beq v.cells.length i.size&&v.cells.all C.solid) then k {val:=.one .undef,wr:=bZ b o v.cells} kw else .stuck 6
   | some (.one (.pe b o n sz e off)),some v,some i=>match vw.row b o (n*sz) with
     | some cs=>if v.flat&&(Nat.beq v.cells.length i.size&&(decide (off+i.size≤sz)&&Nat.beq cs.length (n*sz))) then
      decK (inR e n) (fun ok kw=>if ok then
       (match iteR e off sz v.cells 0 n cs with
       | some ds=>if ds.all C.solid&&(cs.all C.solid&&v.cells.all C.solid) then k {val:=.one .undef,rd:=bG b o (n*sz),wr:=bZ b o ds} kw else .stuck 165
       | none=>.stuck 166)
       else .stuck 167) kw
       else .stuck 168
     | none=>.stuck 169
   | some (.one (.ep id esz e off)),some v,some i=>match vw.sw id with
     | some r=>if r.own&&(Nat.beq r.ks.length esz&&(v.flat&&(Nat.beq v.cells.length i.size&&decide (off+i.size≤esz)))) then
      decK (inB e r.l) (fun b kw=>if b then
       (match eQ kw.vk r.l e off (r.ks.drop off) v.cells with
        | some l=>k {val:=.one .undef,rr:=[id],re:=.set id {r with l:=l}} kw
        | none=>.stuck 57)
       else .stuck 58) kw
       else .stuck 59
     | none=>.stuck 62
   | _,_,_=>.stuck 7
 | .nilCheck x=>match vw.ev x with
   | some (.one (.ptr b o))=>k {val:=.one (.ptr b o)} kw
   | some (.one (.fp b o))=>k {val:=.one (.fp b o)} kw
   | some (.one (.pe b o n sz e off))=>k {val:=.one (.pe b o n sz e off)} kw
   | some (.one (.fn g))=>k {val:=.one (.fn g)} kw
   | some (.one (.ep id esz e off))=>k {val:=.one (.ep id esz e off)} kw
   | some (.one (.clo g fs ps))=>k {val:=.one (.clo g fs ps)} kw
   | some (.one .nilp)=>.panic
   | _=>.stuck 8
 | .binOp op xt x y _=>match vw.ev x,vw.ev y with
   | some v,some u=>binK cx op xt v u kw k
   | _,_=>.stuck 9
 | .unOp op _ x=>match op,vw.ev x with
   | .not,some (.one (.bool e))=>k {val:=.one (.bool (bL e))} kw
   | .neg,some (.one (.int kd e))=>k {val:=.one (.int kd (eg .sub kd (.lit 0) e))} kw
   | .xor,some (.one (.int kd e))=>k {val:=.one (.int kd (eg .xor kd (.lit (if kd.signed then -1 else kd.max)) e))} kw
   | _,_=>.stuck 10
 | .convert s d x=>match vw.ev x,af d cx.ty,af s cx.ty with
   | some (.one (.int _ e)),some i,some _=>match i.ik with
     | some kd=>k {val:=.one (.int kd (if e.rng kw.vk kd then e else rH kd e))} kw
     | none=>.stuck 20
   | _,_,_=>.stuck 21
 | .fieldAddr s x f=>match vw.ev x,af s cx.ty with
   | some (.one (.ptr b o)),some i=>match i.fields[f]? with
     | some (off,_)=>k {val:=.one (.ptr b (o+off))} kw
     | none=>.stuck 22
   | some (.one (.fp b o)),some i=>match i.fields[f]? with
     | some (off,_)=>k {val:=.one (.fp b (o+off))} kw
     | none=>.stuck 22
   | some (.one (.pe b o n sz e off0)),some i=>match i.fields[f]? with
     | some (off,_)=>k {val:=.one (.pe b o n sz e (off0+off))} kw
     | none=>.stuck 22
   | some (.one (.ep id esz e o)),some i=>match i.fields[f]? with
     | some (off,_)=>k {val:=.one (.ep id esz e (o+off))} kw
     | none=>.stuck 22
   | _,_=>.stuck 23
 | .field s x f=>match vw.ev x,af s cx.ty with
   | some (.agg cs),some i=>match i.fields[f]? with
     | some (off,ft)=>match sV cx ft cs off with
       | some v=>k {val:=v} kw
       | none=>.stuck 24
     | none=>.stuck 25
   | _,_=>.stuck 26
 | .indexAddr t x y=>match vw.ev x,vw.ev y,af t cx.ty with
   | some (.one (.ptr b o)),some (.one (.int _ e)),some i=>match i.arr with
     | some (n,et)=>match af et cx.ty with
       | some ie=>if aah cx&&(!e.isLit &&!ie.fnt) then decK (inR e n) (fun ok kw=>if ok then k {val:=.one (.pe b o n ie.size e 0)} kw else .panic) kw else mj e n (fun m kw=>k {val:=.one (.ptr b (o+m*ie.size))} kw) n kw
       | none=>.stuck 27
     | none=>.stuck 28
   | some (.one (.ep id esz e0 o)),some (.one (.int _ e)),some i=>match i.arr with
     | some (n,et)=>match af et cx.ty with
       | some ie=>mj e n (fun m kw=>k {val:=.one (.ep id esz e0 (o+m*ie.size))} kw) n kw
       | none=>.stuck 27
     | none=>.stuck 28
   | some (.one (.sl id)),some (.one (.int _ e)),some i=>match i.sle with
     | some et=>match af et cx.ty,vw.sw id with
       | some ie,some r=>if Nat.beq r.ks.length ie.size then decK (inB e r.l) (fun b kw=>if b then k {val:=.one (.ep id ie.size e 0),rr:=[id]} kw else .panic) kw else .stuck 63
       | _,_=>.stuck 64
     | none=>.stuck 65
   | some (.one .nsl),some (.one (.int _ _)),some _=>.panic
   | _,_,_=>.stuck 29
 | .index t x y=>match vw.ev x,vw.ev y,af t cx.ty with
   | some (.agg cs),some (.one (.int _ e)),some i=>match i.arr with
     | some (n,et)=>match af et cx.ty with
       | some ie=>mj e n (fun m kw=>match sV cx et cs (m*ie.size) with
         | some v=>k {val:=v} kw
         | none=>.stuck 30) n kw
       | none=>.stuck 31
     | none=>.stuck 32
   | _,_,_=>.stuck 33
 | .pick c x y=>match vw.ev c,vw.ev x,vw.ev y with
   | some (.one (.bool e)),some u,some v=>decK e (fun b kw=>k {val:=if b then u else v} kw) kw
   | _,_,_=>.stuck 42
 | .build t ps=>match evP vw.ev ps.toList with
   | some parts=>match xw cx t parts with
     | some v=>k {val:=v} kw
     | none=>.stuck 43
   | none=>.stuck 44
 | .buildSlice t n ps=>match evP vw.ev ps.toList,af t cx.ty with
   | some parts,some i=>match i.sle with
     | some et=>match af et cx.ty with
       | some ie=>match ksOf ie.zero,kF (fun m=>some (m*ie.size,ie.size)) ((List.replicate n ie.zero).flatten) parts with
         | some ks,some cs=>match sP kw.vk ks n cs with
           | some l=>if decide (n*ie.size≤16777216)&&(decide (0<ie.size)&&Nat.beq ks.length ie.size) then k {val:=.one (.sl vw.nid),re:=.mk [⟨ks,et,l,true,.sl⟩]} kw else .stuck 66
           | none=>.stuck 67
         | _,_=>.stuck 68
       | none=>.stuck 69
     | none=>.stuck 74
   | _,_=>.stuck 75
 | .makeSlice t x y=>match vw.ev x,vw.ev y,af t cx.ty with
   | some (.one (.int _ e)),some (.one (.int _ e')),some i=>match i.sle with
     | some et=>match af et cx.ty with
       | some ie=>match ksOf ie.zero with
         | some ks=>match rowE kw.vk ks ie.zero with
           | some r=>if e.same e'&&(decide (0<ie.size)&&(Nat.beq ks.length ie.size&&decide (ie.bytes≤65536))) then
            decK (mkLt e (.lit 0)) (fun b kw=>if b then .panic else decK (mkLt e (.lit bigB)) (fun b kw=>if b then
             k {val:=.one (.sl vw.nid),re:=.mk [⟨ks,et,.lrep e r,true,.sl⟩]} kw else .panic) kw) kw
             else .stuck 76
           | none=>.stuck 77
         | none=>.stuck 78
       | none=>.stuck 79
     | none=>.stuck 84
   | _,_,_=>.stuck 85
 | .slice t x lo hi none=>match vw.ev x,af t cx.ty with
   | some (.one (.sl id)),some i=>match i.sle,vw.sw id with
     | some et,some r=>match af et cx.ty with
       | some ie=>if Nat.beq r.ks.length ie.size&&Nat.beq r.ty et then
        (match hi.map vw.ev,lo.map vw.ev with
        | none,none=>k {val:=.one (.sl id)} kw
        | none,some (some (.one (.int _ a)))=>decK (mkLt a (.lit 0)) (fun b kw=>if b then .panic else decK (mkLt (aY r.l) a) (fun b kw=>if b then .panic else
         k {val:=.one (.sl vw.nid),rr:=[id],re:=.view id {r with own:=false} ⟨r.ks,et,.ldrop r.l a,false,.sl⟩} kw) kw) kw
        | some (some (.one (.int _ c))),none=>decK (mkLt c (.lit 0)) (fun b kw=>if b then .panic else decK (mkLt (aY r.l) c) (fun b kw=>if b then .panic else
         k {val:=.one (.sl vw.nid),rr:=[id],re:=.view id {r with own:=false} ⟨r.ks,et,.ltake r.l c,false,.sl⟩} kw) kw) kw
        | some (some (.one (.int _ c))),some (some (.one (.int _ a)))=>decK (mkLt c (.lit 0)) (fun b kw=>if b then .panic else decK (mkLt (aY r.l) c) (fun b kw=>if b then .panic else
         decK (mkLt a (.lit 0)) (fun b kw=>if b then .panic else decK (mkLt c a) (fun b kw=>if b then .panic else
         k {val:=.one (.sl vw.nid),rr:=[id],re:=.view id {r with own:=false} ⟨r.ks,et,.ldrop (.ltake r.l c) a,false,.sl⟩} kw) kw) kw) kw) kw
        | _,_=>.stuck 86)
         else .stuck 87
       | none=>.stuck 88
     | _,_=>.stuck 89
   | _,_=>.stuck 90
 | .makeMap t none=>.stuck 300
 | .lookup t x y ok=>.stuck 300
 | .mapUpdate t x y z=>.stuck 300
 | .range t x=>.stuck 300
 | .entry x=>.stuck 300
 | .makeFunc fn fs ps=>match fn,capE vw.ev fs.toList,capE vw.ev ps.toList with
   | .func g,some a,some b=>k {val:=.one (.clo g a b)} kw
   | _,_,_=>.stuck 119
 | .extract x n=>match vw.ev x with
   | some (.tup vs)=>match vs[n]? with
     | some (true,cs)=>k {val:=.agg cs} kw
     | some (false,[c])=>k {val:=.one c} kw
     | _=>.stuck 34
   | _=>.stuck 35
 | .call c=>match c.callee with
   | .value f=>match vw.ev f,evL vw.ev c.args.toList with
     | some (.one (.fn g)),some args=>abR cx vw g args kw k
     | _,_=>.stuck 36
   | .builtin .len=>match evL vw.ev c.args.toList,c.argTypes.toList with
     | some [.one (.sl id)],[t]=>match af t cx.ty,vw.sw id with
       | some i,some r=>if i.sle.isSome then k {val:=.one (.int .i64 (lenE kw.vk r.l)),rr:=[id]} kw else .stuck 91
       | _,_=>.stuck 92
     | some [.one .nsl],[t]=>match af t cx.ty with
       | some i=>if i.sle.isSome then k {val:=.one (.int .i64 (.lit 0))} kw else .stuck 91
       | none=>.stuck 92
     | _,_=>.stuck 93
   | .builtin .append=>match evL vw.ev c.args.toList,c.argTypes.toList with
     | some [.one s,.one (.sl id)],[t,t']=>match af t cx.ty,vw.sw id with
       | some i,some r=>match i.sle with
         | some et=>match af et cx.ty with
           | some ie=>if Nat.beq t t'&&(Nat.beq r.ty et&&(Nat.beq r.ks.length ie.size&&(decide (0<ie.size)&&decide (ie.bytes≤65536)))) then
            (match s with
            | .nsl=>decK (mkLt (aY r.l) (.lit bigB)) (fun b kw=>if b then k {val:=.one (.sl vw.nid),rr:=[id],re:=.mk [⟨r.ks,et,r.l,true,.sl⟩]} kw else .panic) kw
            | .sl old=>match vw.sw old with
              | some q=>if q.own&&(Nat.beq q.ty et&&(bk q.ks r.ks &&!Nat.beq old id)) then
               decK (cE (mkLt (aY q.l) (.lit bigB)) (mkLt (aY r.l) (.lit bigB))) (fun b kw=>if b then k {val:=.one (.sl vw.nid),rr:=[old,id],re:=.app old ⟨r.ks,et,catE q.l r.l,true,.sl⟩} kw else .panic) kw
                else .stuck 94
              | none=>.stuck 95
            | _=>.stuck 96)
             else .stuck 97
           | none=>.stuck 98
         | none=>.stuck 99
       | _,_=>.stuck 101
     | _,_=>.stuck 102
   | .builtin .min=>match evL vw.ev c.args.toList with
     | some (.one (.int k0 e)::l)=>match mmK oA k0 e l with
       | some e'=>k {val:=.one (.int k0 e')} kw
       | none=>.stuck 37
     | _=>.stuck 38
   | .builtin .max=>match evL vw.ev c.args.toList with
     | some (.one (.int k0 e)::l)=>match mmK wz k0 e l with
       | some e'=>k {val:=.one (.int k0 e')} kw
       | none=>.stuck 39
     | _=>.stuck 40
   | _=>.stuck 41
 | _=>.stuck 50
end Go.Proofs.Ytghiofgomcihcaa
