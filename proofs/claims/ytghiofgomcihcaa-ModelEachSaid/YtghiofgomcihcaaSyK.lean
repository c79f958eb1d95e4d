import Derived.Test.YtghiofgomcihcaaSyJ2
set_option linter.unusedVariables false
set_option linter.unusedSimpArgs false
namespace Go.Proofs.Ytghiofgomcihcaa
open Go.RowKit
def evS (n:Nat) (tmps:TM):Operand→Option V
 | .tmp t=>if Nat.blt t n then(match tmps.get? t with
   | some .top=>none
   | x=>x) else none
 | .const v=>ofValue v
 | .global _=>none
 | .func f=>some (.one (.fn f))
def ldS (heap:List Ob) (b o:Nat):Option C:=match heap[b]? with
 | some (.box cs _)=>cs[o]?
 | _=>none
def rwS (heap:List Ob) (id:Nat):Option RowOb:=match heap[id]? with
 | some (.row r)=>some r
 | _=>none
def Cx.fbs (cx:Cx) (b:Nat):Option (List C):=cx.fb[b]?
def rowS (heap:List Ob) (b o n:Nat):Option (List C):=match heap[b]? with
 | some (.box cs _)=>seg cs o n
 | _=>none
theorem vT {heap:List Ob} (b o n:Nat) (ds:List C) (h:rowS heap b o n=some ds):dX (ldS heap) b o n=some ds:=by
 unfold rowS at h
 split at h
 ·rename_i cs ty hb
  have:=uV (ld:=ldS heap) (b:=b) (k:=0) h (fun i=>by simp[ldS,hb])
  rwa [Nat.zero_add] at this
 ·cases h
def St.vw (cx:Cx) (s:St):Vw:=⟨evS s.n s.tmps,ldS s.heap,rwS s.heap,cx.fbs,s.heap.length,rowS s.heap,vT⟩
def boxH (heap:List Ob) (b:Nat):Option (List C×Nat):=match heap[b]? with
 | some (.box cs ty)=>some (cs,ty)
 | _=>none
def rowH (heap:List Ob) (b:Nat):Option (Option RowOb):=match heap[b]? with
 | some (.row r)=>some (some r)
 | some .gone=>some none
 | _=>none
def lpH (heap:List Ob) (b:Nat):Option Lp:=match heap[b]? with
 | some (.loop y)=>some y
 | _=>none
def Ob.noLp:Ob→Bool
 | .loop _=>false
 | _=>true
theorem kb {heap:List Ob} {b:Nat} {ob ob':Ob} (h:heap[b]? =some ob) (h1:ob.noLp=true) (h2:ob'.noLp=true) (x:Nat):lpH (heap.set b ob') x=lpH heap x:=by
 unfold lpH
 rw[List.getElem?_set]
 by_cases hb:b=x
 ·subst hb
  rw[if_pos rfl,if_pos (List.getElem?_eq_some_iff.1 h).1,h]
  cases ob<;>cases ob'<;>first | rfl | (cases h1; done) | (cases h2; done)
 ·rw[if_neg hb]
theorem cm {heap l:List Ob} (h:∀ob∈l,ob.noLp=true) (x:Nat):lpH (heap++l) x=lpH heap x:=by
 unfold lpH
 rcases Nat.lt_or_ge x heap.length with h1 | h1
 ·rw[List.getElem?_append_left h1]
 ·rw[List.getElem?_append_right h1,List.getElem?_eq_none h1]
  cases hl:l[x-heap.length]? with
  | none=>rfl
  | some ob=>
    have:=h ob (List.mem_of_getElem? hl)
    cases ob<;>first | rfl | cases this
def fsOf (tm:Nat→V) (heap:List Ob):FS:=⟨tm,boxH heap,rowH heap,lpH heap⟩
def St.fs (s:St):FS:=fsOf (fun t=>(s.tmps.get? t).getD (.one .undef)) s.heap
def wrsS:List (Nat×Nat×C)→List Ob→Option (List Ob)
 | [],h=>some h
 | (b,o,c)::l,h=>match h[b]? with
   | some (.box cs ty)=>if o<cs.length then wrsS l (h.set b (.box (cs.set o c) ty)) else none
   | _=>none
def runW (b:Nat):Nat→List (Nat×Nat×C)→Option (List C)
 | _,[]=>some []
 | o,(b',o',c)::l=>if Nat.beq b b'&&Nat.beq o o' then(runW b (o+1) l).map (c::·) else none
def jR:List C→Nat→List C→Option (List C)
 | cs,0,[]=>some cs
 | _::cs,0,v::vs=>(jR cs 0 vs).map (v::·)
 | c::cs,o+1,vs=>(jR cs o vs).map (c::·)
 | [],_,_=>none
def wrsF (l:List (Nat×Nat×C)) (h:List Ob):Option (List Ob):=
 match l with
 | (b,o,c)::l'=>(match runW b o ((b,o,c)::l') with
   | some vs=>(match h[b]? with
     | some (.box cs ty)=>(jR cs o vs).map fun ds=>h.set b (.box ds ty)
     | _=>none)
   | none=>wrsS ((b,o,c)::l') h)
 | []=>some h
theorem vQ:∀{l:List (Nat×Nat×C)} {b o:Nat} {vs:List C},runW b o l=some vs→l=bZ b o vs
 | [],b,o,vs,h=>by cases h; rfl
 | (b',o',c)::l,b,o,vs,h=>by
   simp only[runW] at h
   split at h
   ·rename_i hb
    simp only[Bool.and_eq_true] at hb
    rw[Option.map_eq_some_iff] at h
    obtain⟨us,h1,rfl⟩:=h
    rw[vQ h1,←Nat.eq_of_beq_eq_true hb.1,←Nat.eq_of_beq_eq_true hb.2]
    rfl
   ·cases h
theorem jQ:∀{cs:List C} {o:Nat} {vs ds:List C},jR cs o vs=some ds→o+vs.length≤cs.length∧∀n,(n<o∨o+vs.length≤n→ds[n]? =cs[n]?)∧(o≤n→n<o+vs.length→ds[n]? =vs[n-o]?)
 | cs,0,[],ds,h=>by
   have:cs=ds:=by cases cs<;>simpa[jR] using h
   subst this
   exact⟨by simp,fun n=>⟨fun _=>rfl,fun _ h=>by simp at h⟩⟩
 | c::cs,0,v::vs,ds,h=>by
   simp only[jR,Option.map_eq_some_iff] at h
   obtain⟨us,h1,rfl⟩:=h
   obtain⟨h2,h3⟩:=jQ h1
   refine⟨by simp only[List.length_cons]; omega,fun n=>⟨fun hn=> ?_,fun _ hn=> ?_⟩⟩
   ·cases n with
    | zero=>simp only[List.length_cons] at hn; omega
    | succ n=>simp only[List.getElem?_cons_succ]; exact(h3 n).1 (by simp only[List.length_cons] at hn; omega)
   ·cases n with
    | zero=>rfl
    | succ n=>
      have:=(h3 n).2 (Nat.zero_le _) (by simp only[List.length_cons] at hn; omega)
      simpa using this
 | c::cs,o+1,vs,ds,h=>by
   simp only[jR,Option.map_eq_some_iff] at h
   obtain⟨us,h1,rfl⟩:=h
   obtain⟨h2,h3⟩:=jQ h1
   refine⟨by simp only[List.length_cons]; omega,fun n=>⟨fun hn=> ?_,fun h4 hn=> ?_⟩⟩
   ·cases n with
    | zero=>rfl
    | succ n=>simp only[List.getElem?_cons_succ]; exact(h3 n).1 (by omega)
   ·cases n with
    | zero=>omega
    | succ n=>
      simp only[List.getElem?_cons_succ,Nat.add_sub_add_right]
      exact(h3 n).2 (by omega) (by omega)
 | [],0,v::vs,ds,h=>by cases h
 | [],o+1,vs,ds,h=>by cases h
theorem qh:∀{vs:List C} {b o:Nat} {h:List Ob} {cs:List C} {ty:Nat},h[b]? =some (.box cs ty)→o+vs.length≤cs.length→wrsS (bZ b o vs) h=some (h.set b (.box (setRow cs o vs) ty))
 | [],b,o,h,cs,ty,hb,hl=>by
   simp only[bZ,wrsS,setRow]
   congr 1
   apply List.ext_getElem?
   intro n
   rw[List.getElem?_set]
   split
   ·rename_i hn
    subst hn
    rw[if_pos (List.getElem?_eq_some_iff.1 hb).1]; exact hb
   ·rfl
 | v::vs,b,o,h,cs,ty,hb,hl=>by
   have hlt:b<h.length:=(List.getElem?_eq_some_iff.1 hb).1
   simp only[List.length_cons] at hl
   simp only[bZ,wrsS,hb]
   rw[if_pos (by omega),qh (cs:=cs.set o v) (ty:=ty) (by rw[List.getElem?_set]; simp[hlt]) (by simp; omega)]
   simp only[setRow,List.set_set]
theorem kN:∀(vs cs:List C) (o n:Nat),o+vs.length≤cs.length→(setRow cs o vs)[n]? =if o≤n∧n<o+vs.length then vs[n-o]? else cs[n]?
 | [],cs,o,n,_=>by simp only[setRow,List.length_nil]; rw[if_neg (by omega)]
 | v::vs,cs,o,n,hl=>by
   simp only[List.length_cons] at hl ⊢
   rw[setRow,kN vs (cs.set o v) (o+1) n (by simp; omega)]
   by_cases h1:o+1≤n∧n<o+1+vs.length
   ·rw[if_pos h1,if_pos (by omega),show n-o=(n-(o+1))+1 by omega]; rfl
   ·rw[if_neg h1,List.getElem?_set]
    by_cases h2:o=n
    ·subst h2
     rw[if_pos rfl,if_pos (by omega),if_pos (by omega),Nat.sub_self]; rfl
    ·rw[if_neg h2,if_neg (by omega)]
theorem aad {l:List (Nat×Nat×C)} {h h':List Ob} (e:wrsF l h=some h'):wrsS l h=some h':=by
 unfold wrsF at e
 split at e
 ·split at e
  ·rename_i vs hrun
   split at e
   ·rename_i cs ty hb
    rw[Option.map_eq_some_iff] at e
    obtain⟨ds,h1,rfl⟩:=e
    obtain⟨h2,h3⟩:=jQ h1
    rw[vQ hrun,qh hb h2]
    congr 2
    congr 1
    apply List.ext_getElem?
    intro n
    rw[kN _ _ _ _ h2]
    split
    ·rename_i hn; exact((h3 n).2 hn.1 hn.2).symm
    ·rename_i hn; exact((h3 n).1 (by omega)).symm
   ·cases e
  ·exact e
 ·exact e
def pL (heap:List Ob) (eff:Eff):Option (List Ob):=
 match eff.al,eff.re with
 | some x,.none=>(match eff.wr with | []=>some (heap++[.box x.1 x.2]) | _=>none)
 | none,.none=>wrsF eff.wr heap
 | none,.set id r=>(match eff.wr,heap[id]? with
   | [],some (.row q)=>if q.own&&r.own then some (heap.set id (.row r)) else none
   | _,_=>none)
 | none,.mk rs=>(match eff.wr with | []=>some (heap++rs.map .row) | _=>none)
 | none,.app old r=>(match eff.wr,heap[old]? with
   | [],some (.row q)=>if q.own&&r.own then some (heap.set old .gone++[.row r]) else none
   | _,_=>none)
 | none,.view old q r=>(match eff.wr,heap[old]? with
   | [],some (.row _)=>if !q.own &&!r.own then some (heap.set old (.row q)++[.row r]) else none
   | _,_=>none)
 | none,.frz old q r=>(match eff.wr,heap[old]? with
   | [],some (.row q0)=>if q0.own&&(!q.own&&r.own) then some (heap.set old (.row q)++[.row r]) else none
   | _,_=>none)
 | none,.peek r=>(match eff.wr with
   | []=>if !r.own then some (heap++[.row r]) else none
   | _=>none)
 | _,_=>none
def St.app (s:St) (dst:Option Nat) (eff:Eff):Option St:=
 match pL s.heap eff with
 | none=>none
 | some h=>match dst with
   | none=>some ⟨s.tmps,h⟩
   | some d=>if Nat.blt d s.n then some ⟨s.tmps.set d eff.val,h⟩ else none
theorem xe (s:St) (hn:s.n≤s.tmps.length) (x:Operand):evF s.fs s.n x=evS s.n s.tmps x:=by
 cases x with
 | tmp t=>
   simp only[evF,evS,St.fs,fsOf]
   by_cases h:t<s.n
   ·obtain⟨v,h2⟩:=TM.get_some (Nat.lt_of_lt_of_le h hn)
    rw[if_pos h,if_pos (by simpa[Nat.blt_eq] using h),h2]
    simp only[Option.getD_some]
    cases v<;>rfl
   ·rw[if_neg h,if_neg (by simpa[Nat.blt_eq] using h)]
 | _=>rfl
theorem pG (s:St) (b o:Nat):ldF s.fs b o=ldS s.heap b o:=by
 simp only[ldF,St.fs,fsOf,boxH,ldS]
 split<;>rfl
theorem gP (s:St) (id:Nat):rwF s.fs id=rwS s.heap id:=by
 simp only[rwF,St.fs,fsOf,rowH,rwS]
 split<;>simp_all
theorem tM:∀(l:List (Nat×Nat×C)) (h h':List Ob) (tm:Nat→V),wrsS l h=some h'→fsOf tm h'=FS.wrs (fsOf tm h) l∧∀p∈l,∃c,ldF (fsOf tm h) p.1 p.2.1=some c
 | [],h,h',tm,e=>by cases e; exact⟨rfl,fun p hp=>by cases hp⟩
 | (b,o,c)::l,h,h',tm,e=>by
   simp only[wrsS] at e
   split at e
   ·rename_i cs ty hb
    split at e
    ·rename_i ho
     obtain⟨h1,h2⟩:=tM l _ h' tm e
     have hblt:b<h.length:=(List.getElem?_eq_some_iff.1 hb).1
     have hw:fsOf tm (h.set b (.box (cs.set o c) ty))=FS.wr (fsOf tm h) (b,o,c):=by
      refine FS.ext' (fun _=>rfl) (fun b'=> ?_) (fun b'=> ?_) (fun b'=>kb hb rfl rfl b')
      ·simp only[FS.wr,fsOf,boxH,List.getElem?_set]
       by_cases hbb:b'=b
       ·subst hbb
        simp only[if_true,hblt,hb,Option.map_some]
       ·simp[hbb,show¬b=b' from fun e=>hbb e.symm]
      ·simp only[FS.wr,fsOf,rowH,List.getElem?_set]
       by_cases hbb:b=b'
       ·subst hbb
        simp only[if_true,hblt,hb]
       ·simp[hbb]
     refine⟨by rw[h1,hw]; rfl,fun p hp=> ?_⟩
     rcases List.mem_cons.1 hp with rfl | hp
     ·exact⟨cs[o],by simp[ldF,fsOf,boxH,hb,List.getElem?_eq_getElem ho]⟩
     ·obtain⟨c',hc'⟩:=h2 p hp
      rw[hw,oF] at hc'
      split at hc'
      ·rw[Option.map_eq_some_iff] at hc'
       obtain⟨x,hx,_⟩:=hc'
       exact⟨x,hx⟩
      ·exact⟨c',hc'⟩
    ·cases e
   ·cases e
theorem qS {heap:List Ob} {b:Nat} {r:RowOb} (h:heap[b]? =some (.row r)):rowH heap b=some (some r)∧boxH heap b=none∧b<heap.length:=
 ⟨by simp[rowH,h],by simp[boxH,h],(List.getElem?_eq_some_iff.1 h).1⟩
theorem ee {heap:List Ob} {b:Nat} (h:heap.length≤b):rowH heap b=none∧boxH heap b=none:=
 ⟨by simp[rowH,List.getElem?_eq_none h],by simp[boxH,List.getElem?_eq_none h]⟩
theorem tj {heap heap':List Ob} {eff:Eff} (h:pL heap eff=some heap') (tm:Nat→V):
  fsOf tm heap'=((match eff.al with | some x=>(fsOf tm heap).new heap.length x | none=>(fsOf tm heap).wrs eff.wr).rws (eff.re.rs heap.length))∧(∀p∈eff.wr,∃c,ldF (fsOf tm heap) p.1 p.2.1=some c)∧ReOk (fsOf tm heap) heap.length eff.re∧((eff.al=none∧eff.wr=[])∨eff.re=.none):=by
 unfold pL at h
 split at h
 ·rename_i x hal hre
  split at h
  ·rename_i hwr
   cases h
   rw[hal,hre,hwr]
   refine⟨?_,fun p hp=>(by cases hp),trivial,.inr rfl⟩
   refine FS.ext' (fun _=>rfl) (fun b=> ?_) (fun b=> ?_) (fun b=>cm (fun ob hob=>by rw[List.mem_singleton.1 hob]; rfl) b)
   ·simp only[FS.new,FS.rws,RE.rs,List.foldl_nil,fsOf,boxH]
    by_cases hb:b=heap.length
    ·subst hb; simp
    ·rcases Nat.lt_or_ge b heap.length with h1 | h1
     ·rw[List.getElem?_append_left h1]; simp[hb]
     ·rw[List.getElem?_eq_none (by simp; omega),List.getElem?_eq_none h1]; simp[hb]
   ·simp only[FS.new,FS.rws,RE.rs,List.foldl_nil,fsOf,rowH]
    by_cases hb:b=heap.length
    ·subst hb; simp
    ·rcases Nat.lt_or_ge b heap.length with h1 | h1
     ·rw[List.getElem?_append_left h1]
     ·rw[List.getElem?_eq_none (by simp; omega),List.getElem?_eq_none h1]
  ·cases h
 ·rename_i hal hre
  rw[hal,hre]
  obtain⟨h1,h2⟩:=tM eff.wr heap heap' tm (aad h)
  exact⟨h1,h2,trivial,.inr rfl⟩
 ·rename_i id r hal hre
  split at h
  ·rename_i q hwr hq
   split at h
   ·rename_i ho
    rw[Bool.and_eq_true] at ho
    cases h
    rw[hal,hre,hwr]
    obtain⟨r1,r2,r3⟩:=qS hq
    refine⟨?_,fun p hp=>(by cases hp),⟨⟨q,r1,ho.1⟩,ho.2⟩,.inl ⟨rfl,rfl⟩⟩
    refine FS.ext' (fun _=>rfl) (fun b=> ?_) (fun b=> ?_) (fun b=>kb hq rfl rfl b)
    ·simp only[FS.wrs,FS.rws,RE.rs,List.foldl_nil,List.foldl_cons,FS.rw1,fsOf,boxH,List.getElem?_set]
     by_cases hb:id=b
     ·subst hb; simp only[if_true,r3,hq]
     ·simp[hb]
    ·simp only[FS.wrs,FS.rws,RE.rs,List.foldl_nil,List.foldl_cons,FS.rw1,fsOf,rowH,List.getElem?_set]
     by_cases hb:id=b
     ·subst hb; simp[r3]
     ·simp[hb,show¬b=id from fun e=>hb e.symm]
   ·cases h
  ·cases h
 ·rename_i rs hal hre
  split at h
  ·rename_i hwr
   cases h
   rw[hal,hre,hwr]
   refine⟨?_,fun p hp=>(by cases hp),fun i hi=>(ee (by omega)).1,.inl ⟨rfl,rfl⟩⟩
   refine FS.ext' (fun t=> ?_) (fun b=> ?_) (fun b=> ?_) (fun b=> ?_)
   ·rw[(ay _ _).2.1]; rfl
   ·rw[(ay _ _).1]
    simp only[FS.wrs,List.foldl_nil,fsOf,boxH]
    rcases Nat.lt_or_ge b heap.length with h1 | h1
    ·rw[List.getElem?_append_left h1]
    ·rw[List.getElem?_append_right h1,List.getElem?_map,List.getElem?_eq_none h1]
     cases rs[b-heap.length]? <;>rfl
   ·show _=((fsOf tm heap).rws (mkRs heap.length rs)).row b
    rw[ga]
    simp only[fsOf,rowH]
    rcases Nat.lt_or_ge b heap.length with h1 | h1
    ·rw[List.getElem?_append_left h1,if_neg (by omega)]
    ·rw[List.getElem?_append_right h1,List.getElem?_map]
     by_cases h2:b<heap.length+rs.length
     ·rw[if_pos ⟨h1,h2⟩,List.getElem?_eq_getElem (by omega)]
      rfl
     ·rw[if_neg (by omega),List.getElem?_eq_none (by omega),List.getElem?_eq_none h1]
      rfl
   ·rw[(ay _ _).2.2]
    exact cm (fun ob hob=>by obtain⟨r,_,rfl⟩:=List.mem_map.1 hob; rfl) b
  ·cases h
 ·rename_i old r hal hre
  split at h
  ·rename_i q hwr hq
   split at h
   ·rename_i ho
    rw[Bool.and_eq_true] at ho
    cases h
    rw[hal,hre,hwr]
    obtain⟨r1,r2,r3⟩:=qS hq
    refine⟨?_,fun p hp=>(by cases hp),⟨⟨q,r1,ho.1⟩,ho.2,(ee (Nat.le_refl _)).1,by omega⟩,.inl ⟨rfl,rfl⟩⟩
    refine FS.ext' (fun _=>rfl) (fun b=> ?_) (fun b=> ?_) (fun b=>(cm (fun ob hob=>by rw[List.mem_singleton.1 hob]; rfl) b).trans (kb hq rfl rfl b))
    ·simp only[FS.wrs,FS.rws,RE.rs,List.foldl_nil,List.foldl_cons,FS.rw1,fsOf,boxH]
     rcases Nat.lt_or_ge b heap.length with h1 | h1
     ·rw[List.getElem?_append_left (by simpa using h1),List.getElem?_set]
      by_cases hb:old=b
      ·subst hb; simp only[if_true,r3,hq]
      ·simp[hb]
     ·rw[List.getElem?_append_right (by simpa using h1),List.getElem?_eq_none h1]
      simp only[List.length_set]
      cases h2:b-heap.length<;>simp
    ·simp only[FS.wrs,FS.rws,RE.rs,List.foldl_nil,List.foldl_cons,FS.rw1,fsOf,rowH]
     rcases Nat.lt_or_ge b heap.length with h1 | h1
     ·rw[List.getElem?_append_left (by simpa using h1),List.getElem?_set,if_neg (show¬b=heap.length by omega)]
      by_cases hb:old=b
      ·subst hb; simp[r3]
      ·simp[hb,show¬b=old from fun e=>hb e.symm]
     ·rw[List.getElem?_append_right (by simpa using h1),List.getElem?_eq_none h1]
      simp only[List.length_set]
      by_cases h2:b=heap.length
      ·subst h2; simp
      ·rw[if_neg h2,if_neg (show¬b=old by omega)]
       rw[List.getElem?_eq_none (by simp; omega)]
   ·cases h
  ·cases h
 ·rename_i old q r hal hre
  split at h
  ·rename_i q0 hwr hq
   split at h
   ·rename_i ho
    rw[Bool.and_eq_true] at ho
    cases h
    rw[hal,hre,hwr]
    obtain⟨r1,r2,r3⟩:=qS hq
    refine⟨?_,fun p hp=>(by cases hp),⟨⟨q0,r1⟩,by simpa using ho.1,by simpa using ho.2,(ee (Nat.le_refl _)).1,by omega⟩,.inl ⟨rfl,rfl⟩⟩
    refine FS.ext' (fun _=>rfl) (fun b=> ?_) (fun b=> ?_) (fun b=>(cm (fun ob hob=>by rw[List.mem_singleton.1 hob]; rfl) b).trans (kb hq rfl rfl b))
    ·simp only[FS.wrs,FS.rws,RE.rs,List.foldl_nil,List.foldl_cons,FS.rw1,fsOf,boxH]
     rcases Nat.lt_or_ge b heap.length with h1 | h1
     ·rw[List.getElem?_append_left (by simpa using h1),List.getElem?_set]
      by_cases hb:old=b
      ·subst hb; simp only[if_true,r3,hq]
      ·simp[hb]
     ·rw[List.getElem?_append_right (by simpa using h1),List.getElem?_eq_none h1]
      simp only[List.length_set]
      cases h2:b-heap.length<;>simp
    ·simp only[FS.wrs,FS.rws,RE.rs,List.foldl_nil,List.foldl_cons,FS.rw1,fsOf,rowH]
     rcases Nat.lt_or_ge b heap.length with h1 | h1
     ·rw[List.getElem?_append_left (by simpa using h1),List.getElem?_set,if_neg (show¬b=heap.length by omega)]
      by_cases hb:old=b
      ·subst hb; simp[r3]
      ·simp[hb,show¬b=old from fun e=>hb e.symm]
     ·rw[List.getElem?_append_right (by simpa using h1),List.getElem?_eq_none h1]
      simp only[List.length_set]
      by_cases h2:b=heap.length
      ·subst h2; simp
      ·rw[if_neg h2,if_neg (show¬b=old by omega)]
       rw[List.getElem?_eq_none (by simp; omega)]
   ·cases h
  ·cases h
 ·rename_i old q r hal hre
  split at h
  ·rename_i q0 hwr hq
   split at h
   ·rename_i ho
    simp only[Bool.and_eq_true] at ho
    cases h
    rw[hal,hre,hwr]
    obtain⟨r1,r2,r3⟩:=qS hq
    refine⟨?_,fun p hp=>(by cases hp),⟨⟨q0,r1,ho.1⟩,by simpa using ho.2.1,ho.2.2,(ee (Nat.le_refl _)).1,by omega⟩,.inl ⟨rfl,rfl⟩⟩
    refine FS.ext' (fun _=>rfl) (fun b=> ?_) (fun b=> ?_) (fun b=>(cm (fun ob hob=>by rw[List.mem_singleton.1 hob]; rfl) b).trans (kb hq rfl rfl b))
    ·simp only[FS.wrs,FS.rws,RE.rs,List.foldl_nil,List.foldl_cons,FS.rw1,fsOf,boxH]
     rcases Nat.lt_or_ge b heap.length with h1 | h1
     ·rw[List.getElem?_append_left (by simpa using h1),List.getElem?_set]
      by_cases hb:old=b
      ·subst hb; simp only[if_true,r3,hq]
      ·simp[hb]
     ·rw[List.getElem?_append_right (by simpa using h1),List.getElem?_eq_none h1]
      simp only[List.length_set]
      cases h2:b-heap.length<;>simp
    ·simp only[FS.wrs,FS.rws,RE.rs,List.foldl_nil,List.foldl_cons,FS.rw1,fsOf,rowH]
     rcases Nat.lt_or_ge b heap.length with h1 | h1
     ·rw[List.getElem?_append_left (by simpa using h1),List.getElem?_set,if_neg (show¬b=heap.length by omega)]
      by_cases hb:old=b
      ·subst hb; simp[r3]
      ·simp[hb,show¬b=old from fun e=>hb e.symm]
     ·rw[List.getElem?_append_right (by simpa using h1),List.getElem?_eq_none h1]
      simp only[List.length_set]
      by_cases h2:b=heap.length
      ·subst h2; simp
      ·rw[if_neg h2,if_neg (show¬b=old by omega)]
       rw[List.getElem?_eq_none (by simp; omega)]
   ·cases h
  ·cases h
 ·rename_i r hal hre
  split at h
  ·rename_i hwr
   split at h
   ·rename_i ho
    cases h
    rw[hal,hre,hwr]
    refine⟨?_,fun p hp=>(by cases hp),⟨by simpa using ho,(ee (Nat.le_refl _)).1⟩,.inl ⟨rfl,rfl⟩⟩
    refine FS.ext' (fun _=>rfl) (fun b=> ?_) (fun b=> ?_) (fun b=>cm (fun ob hob=>by rw[List.mem_singleton.1 hob]; rfl) b)
    ·simp only[FS.wrs,FS.rws,RE.rs,List.foldl_nil,List.foldl_cons,FS.rw1,fsOf,boxH]
     rcases Nat.lt_or_ge b heap.length with h1 | h1
     ·rw[List.getElem?_append_left h1]
     ·rw[List.getElem?_append_right h1,List.getElem?_eq_none h1]
      cases h2:b-heap.length<;>simp
    ·simp only[FS.wrs,FS.rws,RE.rs,List.foldl_nil,List.foldl_cons,FS.rw1,fsOf,rowH]
     rcases Nat.lt_or_ge b heap.length with h1 | h1
     ·rw[List.getElem?_append_left h1,if_neg (show¬b=heap.length by omega)]
     ·rw[List.getElem?_append_right h1,List.getElem?_eq_none h1]
      by_cases h2:b=heap.length
      ·subst h2; simp
      ·rw[if_neg h2,List.getElem?_eq_none (by simp; omega)]
   ·cases h
  ·cases h
 ·cases h
theorem St.app_ok {s s':St} (hn:s.n≤s.tmps.length) {dst:Option Nat} {eff:Eff} (h:s.app dst eff=some s'):s'.fs=s.fs.app dst s.heap.length eff∧(s'.tmps.length=s.tmps.length∧s'.n=s.n)∧(∀d,dst=some d→d<s.n)∧(∀p∈eff.wr,∃c,ldF s.fs p.1 p.2.1=some c)∧ReOk s.fs s.heap.length eff.re∧((eff.al=none∧eff.wr=[])∨eff.re=.none):=by
 unfold St.app at h
 split at h
 ·cases h
 ·rename_i hp heq
  obtain⟨h1,h2,h3,h4⟩:=tj heq (fun t=>(s.tmps.get? t).getD (.one .undef))
  have key:∀dst,(fsOf (fun t=>(s.tmps.get? t).getD (.one .undef)) hp).put dst eff.val=s.fs.app dst s.heap.length eff:=fun dst=>by
   unfold FS.app
   rw[h1]
   rfl
  split at h
  ·cases h
   refine⟨?_,⟨rfl,rfl⟩,fun d hd=>(by cases hd),h2,h3,h4⟩
   rw[←key]
   refine FS.ext' (fun t=> ?_) (fun _=>rfl) (fun _=>rfl) (fun _=>rfl)
   simp[FS.put,St.fs,fsOf]
  ·rename_i d
   split at h
   ·rename_i hd
    have hd:d<s.n:=by simpa[Nat.blt_eq] using hd
    cases h
    refine⟨?_,⟨rfl,rfl⟩,fun d' hd'=>(by cases hd'; exact hd),h2,h3,h4⟩
    rw[←key]
    refine FS.ext' (fun t=> ?_) (fun _=>rfl) (fun _=>rfl) (fun _=>rfl)
    simp only[FS.put,St.fs,fsOf,TM.get_set s.tmps eff.val hd]
    by_cases ht:d=t
    ·subst ht; simp
    ·simp[ht]
   ·cases h
def opsK (cx:Cx) (ops:Array Oper):List Oper→St→Kw→(List Rec→St→Kw→Tr)→Tr
 | [],s,kw,k=>k [] s kw
 | o::l,s,kw,k=>
   match o.guard with
   | none=>opKX cx (s.vw cx) o.op kw fun eff kw=>
     match s.app o.dst eff with
     | some s'=>opsK cx ops l s' kw fun rs s'' kw=>k (⟨o,true,s.heap.length,eff⟩::rs) s'' kw
     | none=>.stuck 60
   | some (g,b)=>
     match((ops[g]?).bind (·.dst)).bind (fun t=>if Nat.blt t s.n then s.tmps.get? t else none) with
     | some (.one (.bool e))=>decK e (fun x kw=>
       if x==b then opKX cx (s.vw cx) o.op kw fun eff kw=>
        match s.app o.dst eff with
        | some s'=>opsK cx ops l s' kw fun rs s'' kw=>k (⟨o,true,s.heap.length,eff⟩::rs) s'' kw
        | none=>.stuck 60
       else match s.app o.dst {val:=.one .undef} with
        | some s'=>opsK cx ops l s' kw fun rs s'' kw=>k (⟨o,false,s.heap.length,{val:=.one .undef}⟩::rs) s'' kw
        | none=>.stuck 60) kw
     | some (.one .undef)=>match s.app o.dst {val:=.one .undef} with
      | some s'=>opsK cx ops l s' kw fun rs s'' kw=>k (⟨o,false,s.heap.length,{val:=.one .undef}⟩::rs) s'' kw
      | none=>.stuck 60
     | _=>.stuck 61
section
variable {P:Program} {sp:Spec} {ρ:Env} {G:Env→E→Prop} {I:Nat→List Dt→Prop} {cx:Cx} {base:Nat}
theorem ed (hT:∀t i,(t,i)∈cx.ty→TIok P t i) (hS:∀s∈cx.sm,SmOk P sp s) (hkeys:∀s∈cx.sm,∀s'∈cx.sm,s.key=s'.key→s=s') {ops:Array Oper}:
  ∀(l:List Oper) (s:St) (kw:Kw) (k:List Rec→St→Kw→Tr),(opsK cx ops l s kw k).holds sp G ρ I→Good sp cx.sm ρ kw→s.n≤s.tmps.length→
   ∃rs s' kw',(k rs s' kw').holds sp G ρ I∧Good sp cx.sm ρ kw'∧KwGe kw' kw∧rs.map (·.o)=l∧s'.fs=full rs s.fs∧(s'.tmps.length=s.tmps.length∧s'.n=s.n)∧∀(m:Nat) r,rs[m]? =some r→RecOk P ρ s.n base cx.fbs ops r (full (rs.take m) s.fs)
 | [],s,kw,k,h,hg,hn=>⟨[],s,kw,h,hg,.refl _,rfl,rfl,⟨rfl,rfl⟩,fun m r hm=>by simp at hm⟩
 | o::l,s,kw,k,h,hg,hn=>by
   have next:∀(want:Bool) (eff:Eff) (kw0 kw:Kw),KwGe kw kw0→((match s.app o.dst eff with | some s'=>opsK cx ops l s' kw fun rs s'' kw=>k (⟨o,want,s.heap.length,eff⟩::rs) s'' kw | none=>.stuck 60:Tr)).holds sp G ρ I→Good sp cx.sm ρ kw→
    (∀s',s.app o.dst eff=some s'→RecOk P ρ s.n base cx.fbs ops ⟨o,want,s.heap.length,eff⟩ s.fs)→
    ∃rs s' kw',(k rs s' kw').holds sp G ρ I∧Good sp cx.sm ρ kw'∧KwGe kw' kw0∧rs.map (·.o)=o::l∧s'.fs=full rs s.fs∧(s'.tmps.length=s.tmps.length∧s'.n=s.n)∧∀(m:Nat) r,rs[m]? =some r→RecOk P ρ s.n base cx.fbs ops r (full (rs.take m) s.fs):=by
    intro want eff kw0 kw hlv h hg hrec
    split at h
    ·rename_i s1 hs1
     obtain⟨e1,e2,e3,e4,_,_⟩:=St.app_ok hn hs1
     obtain⟨rs,s',kw',h1,h2,h0,h3,h4,h5,h6⟩:=ed hT hS hkeys l s1 kw _ h hg (by rw[e2.1,e2.2]; exact hn)
     refine⟨⟨o,want,s.heap.length,eff⟩::rs,s',kw',h1,h2,h0.trans hlv,by simp[h3],?_,⟨by rw[h5.1,e2.1],by rw[h5.2,e2.2]⟩,fun m r hm=> ?_⟩
     ·rw[h4,e1]; rfl
     ·cases m with
      | zero=>
        simp only[List.getElem?_cons_zero,Option.some.injEq] at hm
        subst hm
        exact hrec s1 hs1
      | succ m=>
        have:=h6 m r (by simpa using hm)
        rw[e1,e2.2] at this
        exact this
    ·exact h.elim
   have ran:∀(kw0 kw:Kw),KwGe kw kw0→(opKX cx (s.vw cx) o.op kw fun eff kw=>
     match s.app o.dst eff with
     | some s'=>opsK cx ops l s' kw fun rs s'' kw=>k (⟨o,true,s.heap.length,eff⟩::rs) s'' kw
     | none=>.stuck 60).holds sp G ρ I→Good sp cx.sm ρ kw→
    (match o.guard with
     | none=>True
     | some (g,b)=>∃t,(ops[g]?).bind (·.dst)=some t∧t<s.n∧∃e:E,s.fs.tmp t=.one (.bool e)∧true=(e.B ρ==b))→
    ∃rs s' kw',(k rs s' kw').holds sp G ρ I∧Good sp cx.sm ρ kw'∧KwGe kw' kw0∧rs.map (·.o)=o::l∧s'.fs=full rs s.fs∧(s'.tmps.length=s.tmps.length∧s'.n=s.n)∧∀(m:Nat) r,rs[m]? =some r→RecOk P ρ s.n base cx.fbs ops r (full (rs.take m) s.fs):=by
    intro kw0 kw hlv h hg hgd
    obtain⟨eff,kw1,h1,g1,l1,hok⟩:=aa5 (P:=P) (o:=o) (base:=base) hT hS hkeys h hg
    refine next true eff kw0 kw1 (l1.trans hlv) h1 g1 (fun s1 hs1=> ?_)
    obtain⟨e1,e2,e3,e4,e5,e6⟩:=St.app_ok hn hs1
    refine⟨fun _=>⟨s.vw cx,rfl,hok,⟨fun x hx v hv=>by rw[xe s hn]; exact hv,fun p hp c hc=>by rw[pG]; exact hc,e4,fun _=>(ee (Nat.le_refl _)).2,fun id hid r hr=>by rw[gP]; exact hr,e5,rfl,e6⟩⟩,fun h=>(by cases h),?_,e3⟩
    cases hgg:o.guard with
    | none=>simp[hgg]
    | some p=>
      obtain⟨g,b⟩:=p
      simp only[hgg]
      rw[hgg] at hgd
      obtain⟨t,h2,h3,e,h4,h5⟩:=hgd
      exact⟨t,h2,h3,.inl ⟨e,h4,h5⟩⟩
   have skipped:∀(kw0 kw:Kw) (g:Nat) (b:Bool),KwGe kw kw0→o.guard=some (g,b)→(match s.app o.dst {val:=.one .undef} with
     | some s'=>opsK cx ops l s' kw fun rs s'' kw=>k (⟨o,false,s.heap.length,{val:=.one .undef}⟩::rs) s'' kw
     | none=>.stuck 60:Tr).holds sp G ρ I→Good sp cx.sm ρ kw→
    (∃t,(ops[g]?).bind (·.dst)=some t∧t<s.n∧((∃e:E,s.fs.tmp t=.one (.bool e)∧false=(e.B ρ==b))∨(s.fs.tmp t=.one .undef∧false=false)))→
    ∃rs s' kw',(k rs s' kw').holds sp G ρ I∧Good sp cx.sm ρ kw'∧KwGe kw' kw0∧rs.map (·.o)=o::l∧s'.fs=full rs s.fs∧(s'.tmps.length=s.tmps.length∧s'.n=s.n)∧∀(m:Nat) r,rs[m]? =some r→RecOk P ρ s.n base cx.fbs ops r (full (rs.take m) s.fs):=by
    intro kw0 kw g b hlv hgg h hg hgd
    refine next false _ kw0 kw hlv h hg (fun s1 hs1=> ?_)
    obtain⟨e1,e2,e3,e4,_,_⟩:=St.app_ok hn hs1
    refine⟨fun h=>(by cases h),fun _=>rfl,?_,e3⟩
    simp only[hgg]
    obtain⟨t,h1,h2,h3⟩:=hgd
    exact⟨t,h1,h2,h3.imp _root_.id (fun h=>⟨h.1,trivial⟩)⟩
   have tmpAt:∀(g t:Nat) v,((ops[g]?).bind (·.dst)).bind (fun t=>if Nat.blt t s.n then s.tmps.get? t else none)=some v→∃t,(ops[g]?).bind (·.dst)=some t∧t<s.n∧s.fs.tmp t=v:=by
    intro g _ v h
    rw[Option.bind_eq_some_iff] at h
    obtain⟨t,h1,h2⟩:=h
    split at h2
    ·rename_i ht
     exact⟨t,h1,by simpa[Nat.blt_eq] using ht,by simp[St.fs,fsOf,h2]⟩
    ·cases h2
   unfold opsK at h
   split at h
   ·rename_i hgg
    exact ran kw kw (.refl _) h hg (by simp[hgg])
   ·rename_i g b hgg
    split at h
    ·rename_i e he
     obtain⟨t,h1,h2,h3⟩:=tmpAt g 0 _ he
     obtain⟨kw1,h4,g4,_,l4⟩:=ak _ _ _ h hg
     split at h4
     ·rename_i hb
      exact ran kw kw1 l4 h4 g4 (by simp only[hgg]; exact⟨t,h1,h2,e,h3,hb.symm⟩)
     ·rename_i hb
      exact skipped kw kw1 g b l4 hgg h4 g4 ⟨t,h1,h2,.inl ⟨e,h3,by simpa using hb⟩⟩
    ·rename_i he
     obtain⟨t,h1,h2,h3⟩:=tmpAt g 0 _ he
     exact skipped kw kw g b (.refl _) hgg h hg ⟨t,h1,h2,.inr ⟨h3,rfl⟩⟩
    ·exact h.elim
end
end Go.Proofs.Ytghiofgomcihcaa
