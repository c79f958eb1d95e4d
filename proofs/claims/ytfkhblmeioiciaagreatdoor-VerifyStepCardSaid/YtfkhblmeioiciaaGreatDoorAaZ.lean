import Derived.Test.YtfkhblmeioiciaaGreatDoorLib
import Derived.Maps.AppendAt
import Derived.OpenShut
import Derived.Laws.EntriesVeiled
import Derived.Calls
import Derived.Laws.OwnMore
import Derived.Deep.Onto
set_option maxRecDepth 100000
set_option maxHeartbeats 8000000
set_option linter.defProp false
set_option linter.unusedVariables false
set_option linter.unusedSimpArgs false
namespace Go.Proofs.YtfkhblmeioiciaaGreatDoor
open Go.RowKit
abbrev CE:=Option IntKind
inductive E where
 | lit (z:Int)
 | var (n:Nat)
 | bin (op:BinOp) (k:IntKind) (a b:E)
 | conv (k:IntKind) (a:E)
 | mn (a b:E)
 | mx (a b:E)
 | len (a:E)
 | get (a i:E) (c:Nat)
 | nil
 | cons (a t:E)
 | consb (b t:E)
 | cL (l t:E)
 | tt (b:Bool)
 | bw (n:Nat)
 | lt (a b:E)
 | eq (a b:E)
 | not (a:E)
 | and (a b:E)
 | beq (a b:E)
 | getb (a i:E) (c:Nat)
 | lw (n:Nat)
 | ln
 | lset (a i:E) (c:Nat) (x:E)
 | lsetb (a i:E) (c:Nat) (x:E)
 | lq (a r:E)
 | lcat (a b:E)
 | lrep (n r:E)
 | ltake (a n:E)
 | ldrop (a n:E)
 | mix (l key:E)
 | lput (l i r:E)
 | nth (i l:E)
 | ite (c a b:E)
 | leq (a b:E)
 deriving Repr,Inhabited
def ahU:BinOp->BinOp->Bool
 | .add,.add | .sub,.sub | .mul,.mul | .quo,.quo | .rem,.rem | .and,.and | .or,.or | .xor,.xor | .shl,.shl | .shr,.shr | .andNot,.andNot=>true
 | _,_=>false
def bz:IntKind->IntKind->Bool
 | .i8,.i8 | .i16,.i16 | .i32,.i32 | .i64,.i64 | .u8,.u8 | .u16,.u16 | .u32,.u32 | .u64,.u64=>true
 | _,_=>false
theorem adk {a b:BinOp} (h:ahU a b=true):a=b:=by cases a<;>cases b<;>first | rfl | cases h
theorem aD {a b:IntKind} (h:bz a b=true):a=b:=by cases a<;>cases b<;>first | rfl | cases h
def gU:Int->Int->Bool
 | .ofNat a,.ofNat b=>Nat.beq a b
 | .negSucc a,.negSucc b=>Nat.beq a b
 | _,_=>false
theorem eQ {a b:Int} (h:gU a b=true):a=b:=by
 cases a<;>cases b<;>simp[gU] at h<;>simp[h]
theorem rv {a b:Int}:gU a b=(a==b):=by
 cases h:gU a b with
 | true=>rw[eQ h];simp
 | false=>
   symm
   rw[beq_eq_false_iff_ne]
   rintro rfl
   cases a<;>simp[gU] at h
def E.same:E->E->Bool
 | .lit a,x=>match x with | .lit b=>gU a b | _=>false
 | .var a,x=>match x with | .var b=>Nat.beq a b | _=>false
 | .bin o k a b,x=>match x with | .bin o' k' a' b'=>ahU o o'&&(bz k k'&&(E.same a a'&&E.same b b')) | _=>false
 | .conv k a,x=>match x with | .conv k' a'=>bz k k'&&E.same a a' | _=>false
 | .mn a b,x=>match x with | .mn a' b'=>E.same a a'&&E.same b b' | _=>false
 | .mx a b,x=>match x with | .mx a' b'=>E.same a a'&&E.same b b' | _=>false
 | .len a,x=>match x with | .len a'=>E.same a a' | _=>false
 | .get a i c,x=>match x with | .get a' i' c'=>Nat.beq c c'&&(E.same a a'&&E.same i i') | _=>false
 | .nil,x=>match x with | .nil=>true | _=>false
 | .cons a b,x=>match x with | .cons a' b'=>E.same a a'&&E.same b b' | _=>false
 | .consb a b,x=>match x with | .consb a' b'=>E.same a a'&&E.same b b' | _=>false
 | .cL a b,x=>match x with | .cL a' b'=>E.same a a'&&E.same b b' | _=>false
 | .tt a,x=>match x with | .tt b=>a==b | _=>false
 | .bw a,x=>match x with | .bw b=>Nat.beq a b | _=>false
 | .lt a b,x=>match x with | .lt a' b'=>E.same a a'&&E.same b b' | _=>false
 | .eq a b,x=>match x with | .eq a' b'=>E.same a a'&&E.same b b' | _=>false
 | .not a,x=>match x with | .not a'=>E.same a a' | _=>false
 | .and a b,x=>match x with | .and a' b'=>E.same a a'&&E.same b b' | _=>false
 | .beq a b,x=>match x with | .beq a' b'=>E.same a a'&&E.same b b' | _=>false
 | .getb a i c,x=>match x with | .getb a' i' c'=>Nat.beq c c'&&(E.same a a'&&E.same i i') | _=>false
 | .lw a,x=>match x with | .lw b=>Nat.beq a b | _=>false
 | .ln,x=>match x with | .ln=>true | _=>false
 | .lset a i c y,x=>match x with | .lset a' i' c' y'=>Nat.beq c c'&&(E.same a a'&&(E.same i i'&&E.same y y')) | _=>false
 | .lsetb a i c y,x=>match x with | .lsetb a' i' c' y'=>Nat.beq c c'&&(E.same a a'&&(E.same i i'&&E.same y y')) | _=>false
 | .lq a b,x=>match x with | .lq a' b'=>E.same a a'&&E.same b b' | _=>false
 | .lcat a b,x=>match x with | .lcat a' b'=>E.same a a'&&E.same b b' | _=>false
 | .lrep a b,x=>match x with | .lrep a' b'=>E.same a a'&&E.same b b' | _=>false
 | .ltake a b,x=>match x with | .ltake a' b'=>E.same a a'&&E.same b b' | _=>false
 | .ldrop a b,x=>match x with | .ldrop a' b'=>E.same a a'&&E.same b b' | _=>false
 | .mix a b,x=>match x with | .mix a' b'=>E.same a a'&&E.same b b' | _=>false
 | .leq a b,x=>match x with | .leq a' b'=>E.same a a'&&E.same b b' | _=>false
 | .nth a b,x=>match x with | .nth a' b'=>E.same a a'&&E.same b b' | _=>false
 | .ite a i y,x=>match x with | .ite a' i' y'=>E.same a a'&&(E.same i i'&&E.same y y') | _=>false
 | .lput a i y,x=>match x with | .lput a' i' y'=>E.same a a'&&(E.same i i'&&E.same y y') | _=>false
theorem E.same_eq {a b:E} (h:E.same a b=true):a=b:=by
 induction a generalizing b<;>cases b<;>first | exact Bool.noConfusion h | skip
 case lit.lit=>rw[eQ h]
 case var.var=>rw[thm1 h]
 case bw.bw=>rw[thm1 h]
 case lw.lw=>rw[thm1 h]
 case nil.nil=>rfl
 case ln.ln=>rfl
 case tt.tt=>rw[E.same,aZ] at h;rw[h]
 case bin.bin ih1 ih2 _ _ _ _=>simp only[E.same,thm0] at h;obtain⟨h1,h2,h3,h4⟩:=h;rw[adk h1,aD h2,ih1 h3,ih2 h4]
 case conv.conv ih _ _=>simp only[E.same,thm0] at h;rw[aD h.1,ih h.2]
 case not.not ih _=>rw[ih h]
 case len.len ih _=>rw[ih h]
 case get.get ih1 ih2 _ _ _=>simp only[E.same,thm0] at h;rw[thm1 h.1,ih1 h.2.1,ih2 h.2.2]
 case getb.getb ih1 ih2 _ _ _=>simp only[E.same,thm0] at h;rw[thm1 h.1,ih1 h.2.1,ih2 h.2.2]
 case lset.lset ih1 ih2 ih3 _ _ _ _=>simp only[E.same,thm0] at h;rw[thm1 h.1,ih1 h.2.1,ih2 h.2.2.1,ih3 h.2.2.2]
 case ite.ite ih1 ih2 ih3 _ _ _=>simp only[E.same,thm0] at h;rw[ih1 h.1,ih2 h.2.1,ih3 h.2.2]
 case lput.lput ih1 ih2 ih3 _ _ _=>simp only[E.same,thm0] at h;rw[ih1 h.1,ih2 h.2.1,ih3 h.2.2]
 case lsetb.lsetb ih1 ih2 ih3 _ _ _ _=>simp only[E.same,thm0] at h;rw[thm1 h.1,ih1 h.2.1,ih2 h.2.2.1,ih3 h.2.2.2]
 all_goals
  rename_i ih1 ih2 _ _
  simp only[E.same,thm0] at h
  rw[ih1 h.1,ih2 h.2]
def gt (L:List (List Int)) (i:Int) (c:Nat):Int:=(L.getD i.toNat []).getD c 0
def st (L:List (List Int)) (i:Int) (c:Nat) (x:Int):List (List Int):=L.set i.toNat ((L.getD i.toNat []).set c x)
def mixI (L:List (List Int)) (key:List Int):Int:=(L.findIdx fun r=>r.take key.length==key:Nat)
def b2i (b:Bool):Int:=if b then 1 else 0
inductive Dt where
 | z (x:Int)
 | l (L:List (List Int))
 deriving Inhabited
structure Env where
 i:Nat->Int
 b:Nat->Bool
 l:Nat->List (List Int)
def opI (op:BinOp) (k:IntKind) (a b:Int):Int:=
 match op with
 | .add=>k.wrap (a+b)
 | .sub=>k.wrap (a-b)
 | .mul=>k.wrap (a*b)
 | .quo=>k.wrap (a.tdiv b)
 | .rem=>a.tmod b
 | .and | .or | .xor | .andNot=>bits op k a b
 | .shl=>k.wrap (a*2 ^ min b.toNat k.bits)
 | .shr=>a.fdiv (2 ^ min b.toNat k.bits)
 | _=>0
mutual
def E.I (U:Env):E->Int
 | .lit z=>z
 | .var n=>U.i n
 | .bin op k a b=>opI op k (a.I U) (b.I U)
 | .conv k a=>k.wrap (a.I U)
 | .mn a b=>min (a.I U) (b.I U)
 | .mx a b=>max (a.I U) (b.I U)
 | .len a=>((a.R U).length:Int)
 | .get a i c=>gt (a.R U) (i.I U) c
 | .mix l key=>mixI (l.R U) (key.L U)
 | .nth i l=>(l.L U).getD (i.I U).toNat 0
 | .ite c a b=>if c.B U then a.I U else b.I U
 | _=>0
 termination_by structural x=>x
def E.B (U:Env):E->Bool
 | .tt b=>b
 | .bw n=>U.b n
 | .lt a b=>decide (a.I U<b.I U)
 | .eq a b=>a.I U==b.I U
 | .not a=>!a.B U
 | .and a b=>a.B U&&b.B U
 | .beq a b=>a.B U==b.B U
 | .getb a i c=>gt (a.R U) (i.I U) c==1
 | .leq a b=>a.R U==b.R U
 | _=>false
 termination_by structural x=>x
def E.L (U:Env):E->List Int
 | .cons a t=>a.I U::t.L U
 | .consb b t=>b2i (b.B U)::t.L U
 | _=>[]
 termination_by structural x=>x
def E.R (U:Env):E->List (List Int)
 | .lw n=>U.l n
 | .lset a i c x=>st (a.R U) (i.I U) c (x.I U)
 | .lsetb a i c x=>st (a.R U) (i.I U) c (b2i (x.B U))
 | .lq a r=>a.R U++[r.L U]
 | .lput a i r=>(a.R U).set (i.I U).toNat (r.L U)
 | .lcat a b=>a.R U++b.R U
 | .lrep n r=>List.replicate (n.I U).toNat (r.L U)
 | .ltake a n=>(a.R U).take (n.I U).toNat
 | .ldrop a n=>(a.R U).drop (n.I U).toNat
 | _=>[]
 termination_by structural x=>x
end
def E.D (U:Env):E->List Dt
 | .cons a t=>.z (a.I U)::t.D U
 | .consb b t=>.z (b2i (b.B U))::t.D U
 | .cL l t=>.l (l.R U)::t.D U
 | _=>[]
structure SV where
 a:Option Addr
 n:Nat
 c:Nat
 z:List (Nat×Obj)
def SV.v (s:SV):Value:=.slice s.a s.n s.c
def SV.mv (s:SV):Value:=.map (s.a.map (·.block))
def SV.cut (s:SV) (sz l h m:Nat):SV:=⟨if m=l then s.a else s.a.map (·.add (l*sz)),h-l,m-l,[]⟩
def lP (L:List (List Int)):ByteArray:=⟨(L.map fun r=>UInt8.ofNat (r.getD 0 0).toNat).toArray⟩
def SV.pv (s:SV):Value:=.pointer (s.a.map fun a=>⟨a.block,0,none⟩)
structure Gh where
 y:Nat->Option Nat
 z:Nat->Option Obj
structure J where
 b:Nat->Option Nat
 s:Nat->Option SV
 f:Nat->Option Nat
 g:Gh
def Gh.zero:Gh:=⟨fun _=>Option.none,fun _=>Option.none⟩
def J.zero:J:=⟨fun _=>Option.none,fun _=>Option.none,fun _=>Option.none,Gh.zero⟩
inductive C where
 | int (k:IntKind) (e:E)
 | bool (e:E)
 | ptr (b o:Nat)
 | fp (b o:Nat)
 | fn (f:Nat)
 | np
 | undef
 | sl (id:Nat)
 | ep (id esz:Nat) (e:E) (off:Nat)
 | nsl
 | nf
 | clo (g:Nat) (fs ps:List (Option (Bool×Nat×Nat)))
 | mp (id:Nat)
 | itp (id mid:Nat)
 | pe (b o n sz:Nat) (e:E) (off:Nat)
 | nmp
 | wn (id sz:Nat) (lo hi:E) (mx:Option E)
 | aw (b o n sz:Nat) (lo hi mx:E)
 | str (e:E)
 | yld (id:Nat)
 deriving Repr,Inhabited
inductive V where
 | one (c:C)
 | agg (cs:List C)
 | tup (vs:List (Bool×List C))
 | top
 deriving Repr,Inhabited
def SV.elem (s:SV) (n:Nat):Option Value:=s.a.map fun a=>.pointer (some (a.add n))
def ptrV (j:J):Option (Bool×Nat×Nat)->Option Value
 | none=>some (.pointer none)
 | some (true,b,o)=>(j.b b).map fun k=>.pointer (some ⟨k,o,none⟩)
 | some (false,b,o)=>(j.f b).map fun k=>.pointer (some ⟨k,o,none⟩)
def em (j:J):List (Option (Bool×Nat×Nat))->Option (List Value)
 | []=>some []
 | x::l=>match ptrV j x,em j l with
   | some v,some vs=>some (v::vs)
   | _,_=>none
def cloV (g:Nat):Option (List Value)->Option (List Value)->Option Value
 | some a,some b=>some (.func (.func g) a.toArray b.toArray)
 | _,_=>none
theorem fB {g:Nat} {a b:Option (List Value)} {v:Value} (h:cloV g a b=some v):∃x y,a=some x/\b=some y/\v=.func (.func g) x.toArray y.toArray:=by
 cases a<;>cases b<;>simp only[cloV] at h<;>cases h
 exact⟨_,_,rfl,rfl,rfl⟩
def mxN (U:Env) (mx:Option E) (c:Nat):Nat:=match mx with
 | some m=>(m.I U).toNat
 | none=>c
def C.den (U:Env) (j:J):C->Option Value
 | .wn id sz lo hi mx=>(j.s id).map fun s=>(s.cut sz (lo.I U).toNat (hi.I U).toNat (mxN U mx s.c)).v
 | .aw b o n sz lo hi mx=>(j.b b).map fun k=>((⟨some ⟨k,o,none⟩,n,n,[]⟩:SV).cut sz (lo.I U).toNat (hi.I U).toNat (mx.I U).toNat).v
 | .str e=>some (.string (lP (e.R U)))
 | .yld id=>(j.g.y id).map fun l=>.func (.yield l) #[] #[]
 | .int k e=>some (.int k (e.I U))
 | .bool e=>some (.bool (e.B U))
 | .ptr b o=>(j.b b).map fun k=>.pointer (some ⟨k,o,none⟩)
 | .fp b o=>(j.f b).map fun k=>.pointer (some ⟨k,o,none⟩)
 | .pe b o _ sz e off=>(j.b b).map fun k=>.pointer (some ⟨k,o+((e.I U).toNat*sz+off),none⟩)
 | .sl id=>(j.s id).map SV.v
 | .ep id esz e off=>(j.s id).bind fun v=>v.elem ((e.I U).toNat*esz+off)
 | .nsl=>some (.slice none 0 0)
 | .nf=>some .nilFunc
 | .nmp=>some (.map none)
 | .fn f=>some (.func (.func f) #[] #[])
 | .np=>some (.pointer none)
 | .undef=>some Go.undef
 | .clo g fs ps=>cloV g (em j fs) (em j ps)
 | .mp id=>(j.s id).map SV.mv
 | .itp id mid=>(j.s id).bind fun s=>(j.s mid).bind fun m=>if m.a=some ⟨s.n,0,none⟩ then some s.pv else none
def denL (U:Env) (j:J):List C->Option (List Value)
 | []=>some []
 | c::cs=>match c.den U j,denL U j cs with
   | some v,some vs=>some (v::vs)
   | _,_=>none
def den0 (U:Env) (j:J):Bool×List C->Option Value
 | (true,cs)=>(denL U j cs).map fun vs=>.agg vs.toArray
 | (false,[c])=>c.den U j
 | (false,_)=>none
def bK (U:Env) (j:J):List (Bool×List C)->Option (List Value)
 | []=>some []
 | c::cs=>match den0 U j c,bK U j cs with
   | some v,some vs=>some (v::vs)
   | _,_=>none
def V.den (U:Env) (j:J):V->Option Value
 | .one c=>c.den U j
 | .agg cs=>(denL U j cs).map fun vs=>.agg vs.toArray
 | .tup vs=>(bK U j vs).map fun vs=>.tuple vs.toArray
 | .top=>none
structure Sub (j j':J):Prop where
 b:∀b k,j.b b=some k->j'.b b=some k
 s:∀b v,j.s b=some v->j'.s b=some v
 f:∀b k,j.f b=some k->j'.f b=some k
 y:∀b k,j.g.y b=some k->j'.g.y b=some k
theorem Sub.refl (j:J):Sub j j:=⟨fun _ _ h=>h,fun _ _ h=>h,fun _ _ h=>h,fun _ _ h=>h⟩
theorem Sub.trans {j j' j'':J} (h:Sub j j') (h':Sub j' j''):Sub j j'':=⟨fun b k e=>h'.b b k (h.b b k e),fun b k e=>h'.s b k (h.s b k e),fun b k e=>h'.f b k (h.f b k e),fun b k e=>h'.y b k (h.y b k e)⟩
theorem Sub.zero (j:J):Sub J.zero j:=⟨fun _ _ h=>(by cases h),fun _ _ h=>(by cases h),fun _ _ h=>(by cases h),fun _ _ h=>(by cases h)⟩
theorem agc {j j':J} (h:Sub j j') {x:Option (Bool×Nat×Nat)} {v:Value} (hd:ptrV j x=some v):ptrV j' x=some v:=by
 match x,hd with
 | none,hd=>exact hd
 | some (true,b,o),hd=>
   simp only[ptrV,thm4] at hd ⊢
   obtain⟨k,hk,rfl⟩:=hd
   exact⟨k,h.b b k hk,rfl⟩
 | some (false,b,o),hd=>
   simp only[ptrV,thm4] at hd ⊢
   obtain⟨k,hk,rfl⟩:=hd
   exact⟨k,h.f b k hk,rfl⟩
theorem nt {j j':J} (h:Sub j j'):∀{l:List (Option (Bool×Nat×Nat))} {vs:List Value},em j l=some vs->em j' l=some vs
 | [],_,hd=>hd
 | x::l,vs,hd=>by
   simp only[em] at hd ⊢
   cases hx:ptrV j x with
   | none=>rw[hx] at hd;cases hd
   | some v=>
     cases hl:em j l with
     | none=>rw[hx,hl] at hd;cases hd
     | some us=>
       rw[hx,hl] at hd
       rw[agc h hx,nt h hl]
       exact hd
theorem C.den_sub {U:Env} {j j':J} (h:Sub j j') {c:C} {v:Value} (hd:c.den U j=some v):c.den U j'=some v:=by
 cases c with
 | ptr b o=>
   simp only[C.den,thm4] at hd ⊢
   obtain⟨k,hk,rfl⟩:=hd
   exact⟨k,h.b b k hk,rfl⟩
 | fp b o=>
   simp only[C.den,thm4] at hd ⊢
   obtain⟨k,hk,rfl⟩:=hd
   exact⟨k,h.f b k hk,rfl⟩
 | sl id=>
   simp only[C.den,thm4] at hd ⊢
   obtain⟨u,hu,rfl⟩:=hd
   exact⟨u,h.s id u hu,rfl⟩
 | ep id esz e off=>
   simp only[C.den,cz] at hd ⊢
   obtain⟨u,hu,he⟩:=hd
   exact⟨u,h.s id u hu,he⟩
 | wn id sz lo hi mx=>
   simp only[C.den,thm4] at hd ⊢
   obtain⟨u,hu,rfl⟩:=hd
   exact⟨u,h.s id u hu,rfl⟩
 | aw b o n sz lo hi mx=>
   simp only[C.den,thm4] at hd ⊢
   obtain⟨u,hu,rfl⟩:=hd
   exact⟨u,h.b b u hu,rfl⟩
 | mp id=>
   simp only[C.den,thm4] at hd ⊢
   obtain⟨u,hu,rfl⟩:=hd
   exact⟨u,h.s id u hu,rfl⟩
 | yld id=>
   simp only[C.den,thm4] at hd ⊢
   obtain⟨u,hu,rfl⟩:=hd
   exact⟨u,h.y id u hu,rfl⟩
 | pe b o n sz e off=>
   simp only[C.den,thm4] at hd ⊢
   obtain⟨u,hu,rfl⟩:=hd
   exact⟨u,h.b b u hu,rfl⟩
 | itp id mid=>
   simp only[C.den,cz] at hd ⊢
   obtain⟨u,hu,m,hm,he⟩:=hd
   exact⟨u,h.s id u hu,m,h.s mid m hm,he⟩
 | clo g fs ps=>
   obtain⟨x,y,hx,hy,rfl⟩:=fB hd
   simp only[C.den,nt h hx,nt h hy,cloV]
 | _=>exact hd
theorem bo {U:Env} {j j':J} (h:Sub j j'):∀{cs:List C} {vs:List Value},denL U j cs=some vs->denL U j' cs=some vs
 | [],_,hd=>hd
 | c::cs,vs,hd=>by
   simp only[denL] at hd ⊢
   cases hc:c.den U j with
   | none=>rw[hc] at hd;cases hd
   | some v=>
     cases hl:denL U j cs with
     | none=>rw[hc,hl] at hd;cases hd
     | some l=>
       rw[hc,hl] at hd
       rw[C.den_sub h hc,bo h hl]
       exact hd
theorem agX {U:Env} {j j':J} (h:Sub j j') {p:Bool×List C} {v:Value} (hd:den0 U j p=some v):den0 U j' p=some v:=by
 obtain⟨t,cs⟩:=p
 cases t with
 | true=>
   simp only[den0,thm4] at hd ⊢
   obtain⟨l,hl,rfl⟩:=hd
   exact⟨l,bo h hl,rfl⟩
 | false=>
   match cs,hd with
   | [c],hd=>exact C.den_sub h hd
theorem tH {U:Env} {j j':J} (h:Sub j j'):∀{cs:List (Bool×List C)} {vs:List Value},bK U j cs=some vs->bK U j' cs=some vs
 | [],_,hd=>hd
 | c::cs,vs,hd=>by
   simp only[bK] at hd ⊢
   cases hc:den0 U j c with
   | none=>rw[hc] at hd;cases hd
   | some v=>
     cases hl:bK U j cs with
     | none=>rw[hc,hl] at hd;cases hd
     | some l=>
       rw[hc,hl] at hd
       rw[agX h hc,tH h hl]
       exact hd
theorem aip {U:Env} {j:J} {id mid:Nat} {v:Value} (h:(C.itp id mid).den U j=some v):∃s m,j.s id=some s/\j.s mid=some m/\m.a=some ⟨s.n,0,none⟩/\v=s.pv:=by
 simp only[C.den,cz] at h
 obtain⟨u,hu,m,hm,he⟩:=h
 split at he
 ·rename_i hc;cases he;exact⟨u,m,hu,hm,hc,rfl⟩
 ·cases he
theorem V.den_sub {U:Env} {j j':J} (h:Sub j j') {x:V} {v:Value} (hd:x.den U j=some v):x.den U j'=some v:=by
 cases x with
 | one c=>exact C.den_sub h hd
 | agg cs=>
   simp only[V.den,thm4] at hd ⊢
   obtain⟨l,hl,rfl⟩:=hd
   exact⟨l,bo h hl,rfl⟩
 | tup vs=>
   simp only[V.den,thm4] at hd ⊢
   obtain⟨l,hl,rfl⟩:=hd
   exact⟨l,tH h hl,rfl⟩
 | top=>cases hd
theorem aW {U:Env} {j:J}:∀{cs:List C} {vs:List Value},denL U j cs=some vs->vs.length=cs.length
 | [],vs,h=>by cases h;rfl
 | c::cs,vs,h=>by
   simp only[denL] at h
   cases hc:c.den U j with
   | none=>rw[hc] at h;cases h
   | some v=>
     cases hl:denL U j cs with
     | none=>rw[hc,hl] at h;cases h
     | some l=>rw[hc,hl] at h;cases h;simp[aW hl]
theorem dt {U:Env} {j:J}:∀{cs:List C} {vs:List Value},denL U j cs=some vs->∀(i:Nat) c,cs[i]? =some c->∃v,vs[i]? =some v/\c.den U j=some v
 | [],vs,h,i,c,hc=>by simp at hc
 | c::cs,vs,h,i,c',hc'=>by
   simp only[denL] at h
   cases hc:c.den U j with
   | none=>rw[hc] at h;cases h
   | some v=>
     cases hl:denL U j cs with
     | none=>rw[hc,hl] at h;cases h
     | some l=>
       rw[hc,hl] at h;cases h
       cases i with
       | zero=>simp at hc';subst hc';exact⟨v,rfl,hc⟩
       | succ i=>exact dt hl i c' (by simpa using hc')
theorem qV {U:Env} {j:J}:∀{cs:List C} {vs:List Value},denL U j cs=some vs->∀(i:Nat) (c:C) (v:Value),c.den U j=some v->denL U j (cs.set i c)=some (vs.set i v)
 | [],vs,h,i,c,v,hv=>by cases h;rfl
 | c::cs,vs,h,i,c',v',hv'=>by
   simp only[denL] at h
   cases hc:c.den U j with
   | none=>rw[hc] at h;cases h
   | some v=>
     cases hl:denL U j cs with
     | none=>rw[hc,hl] at h;cases h
     | some l=>
       rw[hc,hl] at h;cases h
       cases i with
       | zero=>simp only[List.set_cons_zero,denL,hv',hl]
       | succ i=>simp only[List.set_cons_succ,denL,hc,qV hl i c' v' hv']
theorem gJ {U:Env} {j:J}:∀{cs ds:List C} {vs us:List Value},denL U j cs=some vs->denL U j ds=some us->denL U j (cs++ds)=some (vs++us)
 | [],ds,vs,us,h,h'=>by cases h;exact h'
 | c::cs,ds,vs,us,h,h'=>by
   simp only[denL] at h
   cases hc:c.den U j with
   | none=>rw[hc] at h;cases h
   | some v=>
     cases hl:denL U j cs with
     | none=>rw[hc,hl] at h;cases h
     | some l=>
       rw[hc,hl] at h;cases h
       simp only[List.cons_append,denL,hc,gJ hl h']
theorem kJ {U:Env} {j:J}:∀{cs:List C} {vs:List Value},denL U j cs=some vs->∀(i:Nat),denL U j (cs.take i)=some (vs.take i)
 | [],vs,h,i=>by cases h;simp[denL]
 | c::cs,vs,h,i=>by
   simp only[denL] at h
   cases hc:c.den U j with
   | none=>rw[hc] at h;cases h
   | some v=>
     cases hl:denL U j cs with
     | none=>rw[hc,hl] at h;cases h
     | some l=>
       rw[hc,hl] at h;cases h
       cases i with
       | zero=>rfl
       | succ i=>simp only[List.take_succ_cons,denL,hc,kJ hl i]
theorem iC {U:Env} {j:J}:∀{cs:List C} {vs:List Value},denL U j cs=some vs->∀(i:Nat),denL U j (cs.drop i)=some (vs.drop i)
 | [],vs,h,i=>by cases h;simp[denL]
 | c::cs,vs,h,i=>by
   have h0:=h
   simp only[denL] at h
   cases hc:c.den U j with
   | none=>rw[hc] at h;cases h
   | some v=>
     cases hl:denL U j cs with
     | none=>rw[hc,hl] at h;cases h
     | some l=>
       rw[hc,hl] at h;cases h
       cases i with
       | zero=>exact h0
       | succ i=>simp only[List.drop_succ_cons];exact iC hl i
theorem tI {U:Env} {j:J}:∀{cs:List (Bool×List C)} {vs:List Value},bK U j cs=some vs->∀(i:Nat) c,cs[i]? =some c->∃v,vs[i]? =some v/\den0 U j c=some v
 | [],vs,h,i,c,hc=>by simp at hc
 | c::cs,vs,h,i,c',hc'=>by
   simp only[bK] at h
   cases hc:den0 U j c with
   | none=>rw[hc] at h;cases h
   | some v=>
     cases hl:bK U j cs with
     | none=>rw[hc,hl] at h;cases h
     | some l=>
       rw[hc,hl] at h;cases h
       cases i with
       | zero=>simp at hc';subst hc';exact⟨v,rfl,hc⟩
       | succ i=>exact tI hl i c' (by simpa using hc')
inductive CK where
 | int (k:IntKind)
 | bool
 | fn (g:Nat)
 | lit (k:IntKind) (z:Int)
 | sl (ks:List CE) (ty:Nat)
 | nf
 | any
 | rl (ks:List CE) (ty:Nat) (L:List (List Int))
 | el (ks:List CE) (ty:Nat)
 deriving Repr,Inhabited
inductive Sh where
 | one (c:CK)
 | agg (cs:List CK)
 | ptr (cs:List CK)
 deriving Repr,Inhabited
def Sh.cks:Sh->List CK
 | .one c=>[c]
 | .agg cs=>cs
 | .ptr cs=>cs
inductive VK where
 | int (k:IntKind)
 | bool
 | list (ks:List CE)
 deriving Repr,Inhabited
inductive RK where
 | sl
 | map (nk:Nat) (ka va:Bool)
 | it (mid:Nat) (n:E)
 | ev
 | tab
 deriving Repr,Inhabited
structure RowOb where
 ks:List CE
 ty:Nat
 l:E
 own:Bool
 kd:RK
 deriving Repr,Inhabited
def evKs:List CE:=[some .i64,some .u64,some .i64,some .u64,some .u64,some .u64,some .u64,some .u64]
def RK.isHd:RK->Bool
 | .map _ _ _=>true
 | .it _ _=>true
 | .tab=>true
 | _=>false
def RK.isSl:RK->Bool
 | .sl=>true
 | _=>false
inductive Sig where
 | normal
 | exit (id:Nat)
 | ret
 deriving Repr,Inhabited
inductive LS where
 | ready
 | busy
 | done
 deriving Repr,Inhabited
structure Lp where
 st:LS
 pend:Option Sig
 deriving Repr,Inhabited
inductive Ob where
 | box (cs:List C) (ty:Nat)
 | row (r:RowOb)
 | gone
 | loop (y:Lp)
 deriving Repr,Inhabited
inductive TT where
 | leaf (v:V)
 | node (l r:TT)
 deriving Repr,Inhabited
def TT.get:TT->Nat->V
 | .leaf v,_=>v
 | .node l r,i=>bif Nat.beq (Nat.mod i 2) 0 then l.get (Nat.div i 2) else r.get (Nat.div i 2)
def TT.fst:TT->TT
 | .leaf v=>.leaf v
 | .node l _=>l
def TT.snd:TT->TT
 | .leaf v=>.leaf v
 | .node _ r=>r
def TT.set:Nat->TT->Nat->V->TT
 | 0,_,_,v=>.leaf v
 | d+1,t,i,v=>bif Nat.beq (Nat.mod i 2) 0 then .node (t.fst.set d (Nat.div i 2) v) t.snd else .node t.fst (t.snd.set d (Nat.div i 2) v)
theorem TT.get_fst (t:TT) (i:Nat) (h:i % 2=0):t.fst.get (i / 2)=t.get i:=by
 cases t with
 | leaf v=>rfl
 | node l r=>
   have h':Nat.mod i 2=0:=h
   show l.get (i / 2)=_
   rw[TT.get,h']
   rfl
theorem TT.get_snd (t:TT) (i:Nat) (h:i % 2≠0):t.snd.get (i / 2)=t.get i:=by
 cases t with
 | leaf v=>rfl
 | node l r=>
   have h':Nat.beq (Nat.mod i 2) 0=false:=by
    cases hb:Nat.beq (Nat.mod i 2) 0 with
    | false=>rfl
    | true=>exact absurd (thm1 hb) h
   show r.get (i / 2)=_
   rw[TT.get,h']
   rfl
theorem TT.get_node (l r:TT) (i:Nat):(TT.node l r).get i=if i % 2=0 then l.get (i / 2) else r.get (i / 2):=by
 split
 ·rename_i h;exact(TT.get_fst (.node l r) i h).symm
 ·rename_i h;exact(TT.get_snd (.node l r) i h).symm
theorem TT.get_set (v:V):∀(d:Nat) (t:TT) (i j:Nat),i<2 ^ d->j<2 ^ d->(t.set d i v).get j=if i=j then v else t.get j
 | 0,t,i,j,hi,hj=>by
   have:i=j:=by rw[Nat.pow_zero] at hi hj;omega
   rw[if_pos this];rfl
 | d+1,t,i,j,hi,hj=>by
   have hp:2 ^ (d+1)=2*2 ^ d:=by rw[Nat.pow_succ];omega
   have hi2:i / 2<2 ^ d:=by omega
   have hj2:j / 2<2 ^ d:=by omega
   unfold TT.set
   by_cases h:i % 2=0
   ·have h':Nat.mod i 2=0:=h
    rw[h']
    show(TT.node (t.fst.set d (i / 2) v) t.snd).get j=_
    rw[TT.get_node]
    by_cases h2:j % 2=0
    ·rw[if_pos h2,TT.get_set v d t.fst _ _ hi2 hj2,TT.get_fst t j h2]
     by_cases e:i=j
     ·rw[if_pos (by rw[e]),if_pos e]
     ·rw[if_neg (by omega),if_neg e]
    ·rw[if_neg h2,TT.get_snd t j h2,if_neg (by omega)]
   ·have h':Nat.beq (Nat.mod i 2) 0=false:=by
     cases hb:Nat.beq (Nat.mod i 2) 0 with
     | false=>rfl
     | true=>exact absurd (thm1 hb) h
    rw[h']
    show(TT.node t.fst (t.snd.set d (i / 2) v)).get j=_
    rw[TT.get_node]
    by_cases h2:j % 2=0
    ·rw[if_pos h2,TT.get_fst t j h2,if_neg (by omega)]
    ·rw[if_neg h2,TT.get_set v d t.snd _ _ hi2 hj2,TT.get_snd t j h2]
     by_cases e:i=j
     ·rw[if_pos (by rw[e]),if_pos e]
     ·rw[if_neg (by omega),if_neg e]
structure TM where
 cur:TT
 n:Nat
 old:List (TT×Nat)
 deriving Repr,Inhabited
def gN:List (TT×Nat)->Nat->Option V
 | [],_=>none
 | (t,n)::l,i=>if i<n then some (t.get i) else gN l (i-n)
def en:List (TT×Nat)->Nat
 | []=>0
 | (_,n)::l=>n+en l
def TM.get? (m:TM) (i:Nat):Option V:=if i<m.n then some (m.cur.get i) else gN m.old (i-m.n)
def TM.length (m:TM):Nat:=m.n+en m.old
def TM.set (m:TM) (i:Nat) (v:V):TM:=match m with
 | ⟨c,n,o⟩=>⟨c.set (Nat.log2 n+1) i v,n,o⟩
def TM.setFrom (m:TM):Nat->List V->TM
 | _,[]=>m
 | i,v::l=>(m.set i v).setFrom (i+1) l
def TM.push (args:List V) (n:Nat) (m:TM):TM:=TM.setFrom ⟨.leaf (.one .undef),n,(m.cur,m.n)::m.old⟩ 0 args
def TM.pop (m:TM):TM:=match m.old with
 | []=>⟨m.cur,0,[]⟩
 | (t,n)::l=>⟨t,n,l⟩
theorem TM.length_set (m:TM) (i:Nat) (v:V):(m.set i v).length=m.length:=rfl
theorem TM.n_set (m:TM) (i:Nat) (v:V):(m.set i v).n=m.n:=rfl
theorem TM.get_set (m:TM) {i:Nat} (v:V) (h:i<m.n) (j:Nat):(m.set i v).get? j=if i=j then some v else m.get? j:=by
 unfold TM.get?
 have hb:m.n<2 ^ (Nat.log2 m.n+1):=Nat.lt_log2_self
 by_cases hj:j<m.n
 ·rw[if_pos (show j<(m.set i v).n from hj),if_pos hj]
  show some ((m.cur.set (Nat.log2 m.n+1) i v).get j)=_
  rw[TT.get_set v _ _ _ _ (by omega) (by omega)]
  split<;>rfl
 ·rw[if_neg (show¬j<(m.set i v).n from hj),if_neg hj,if_neg (by omega)]
  rfl
theorem nz:∀{l:List (TT×Nat)} {i:Nat},gN l i=none↔en l<=i
 | [],i=>by simp[gN,en]
 | (t,n)::l,i=>by
   unfold gN en
   split
   ·simp;omega
   ·rw[nz (l:=l)];omega
theorem TM.get_none {m:TM} {i:Nat}:m.get? i=none↔m.length<=i:=by
 unfold TM.get? TM.length
 split
 ·simp;omega
 ·rw[nz];omega
theorem TM.get_some {m:TM} {i:Nat} (h:i<m.length):∃v,m.get? i=some v:=by
 cases hg:m.get? i with
 | some v=>exact⟨v,rfl⟩
 | none=>have:=TM.get_none.1 hg;omega
theorem TM.n_le (m:TM):m.n<=m.length:=Nat.le_add_right _ _
theorem TM.get_lt {m:TM} {i:Nat} (h:i<m.n):m.get? i=some (m.cur.get i):=if_pos h
theorem TM.setFrom_n:∀(l:List V) (m:TM) (i:Nat),(m.setFrom i l).n=m.n/\(m.setFrom i l).old=m.old
 | [],m,i=>⟨rfl,rfl⟩
 | v::l,m,i=>by rw[TM.setFrom];exact TM.setFrom_n l (m.set i v) (i+1)
theorem TM.setFrom_get:∀(l:List V) (m:TM) (i j:Nat),i+l.length<=m.n->(m.setFrom i l).get? j=if i<=j/\j<i+l.length then l[j-i]? else m.get? j
 | [],m,i,j,h=>by rw[TM.setFrom,if_neg (by simp only[List.length_nil];omega)]
 | v::l,m,i,j,h=>by
   simp only[List.length_cons] at h ⊢
   rw[TM.setFrom,TM.setFrom_get l (m.set i v) (i+1) j (by rw[TM.n_set];omega),TM.get_set m v (by omega)]
   by_cases h1:i+1<=j/\j<i+1+l.length
   ·rw[if_pos h1,if_pos (by omega),show j-i=(j-(i+1))+1 by omega,jw]
   ·rw[if_neg h1]
    by_cases h2:i=j
    ·subst h2
     rw[if_pos rfl,if_pos (by omega),Nat.sub_self];rfl
    ·rw[if_neg h2,if_neg (by omega)]
theorem TM.push_n (args:List V) (n:Nat) (m:TM):(m.push args n).n=n:=(TM.setFrom_n _ _ _).1
theorem TM.push_old (args:List V) (n:Nat) (m:TM):(m.push args n).old=(m.cur,m.n)::m.old:=(TM.setFrom_n _ _ _).2
theorem TM.push_length (args:List V) (n:Nat) (m:TM):(m.push args n).length=n+m.length:=by
 unfold TM.length
 rw[TM.push_n,TM.push_old];rfl
theorem TM.push_arg {args:List V} {n:Nat} (m:TM) (h:args.length<=n) {i:Nat} (hi:i<args.length):(m.push args n).get? i=args[i]? :=by
 unfold TM.push
 rw[TM.setFrom_get _ _ _ _ (by simpa using h),if_pos (by omega),Nat.sub_zero]
theorem TM.push_undef {args:List V} {n:Nat} (m:TM) (h:args.length<=n) {i:Nat} (hi:args.length<=i) (hn:i<n):(m.push args n).get? i=some (.one .undef):=by
 unfold TM.push
 rw[TM.setFrom_get _ _ _ _ (by simpa using h),if_neg (by omega)]
 exact TM.get_lt (m:=⟨.leaf (.one .undef),n,(m.cur,m.n)::m.old⟩) hn
theorem TM.push_old_get {args:List V} {n:Nat} (m:TM) (h:args.length<=n) (i:Nat):(m.push args n).get? (n+i)=m.get? i:=by
 unfold TM.push
 rw[TM.setFrom_get _ _ _ _ (by simpa using h),if_neg (by omega)]
 unfold TM.get?
 rw[if_neg (by simp only;omega)]
 show gN ((m.cur,m.n)::m.old) (n+i-n)=_
 rw[Nat.add_sub_cancel_left]
 rfl
theorem TM.pop_get {m:TM} (h:m.old≠[]) (i:Nat):m.pop.get? i=m.get? (m.n+i):=by
 obtain⟨c,n,old⟩:=m
 cases old with
 | nil=>exact(h rfl).elim
 | cons p l=>
   obtain⟨t,k⟩:=p
   show(TM.mk t k l).get? i=(TM.mk c n ((t,k)::l)).get? (n+i)
   unfold TM.get?
   rw[if_neg (show¬n+i<n by omega)]
   simp only[Nat.add_sub_cancel_left]
   rfl
theorem TM.pop_length {m:TM} (h:m.old≠[]):m.length=m.n+m.pop.length:=by
 obtain⟨c,n,old⟩:=m
 cases old with
 | nil=>exact(h rfl).elim
 | cons p l=>obtain⟨t,k⟩:=p;rfl
structure St where
 tmps:TM
 heap:List Ob
 deriving Repr,Inhabited
def St.n (s:St):Nat:=s.tmps.n
theorem St.le (s:St):s.n<=s.tmps.length:=s.tmps.n_le
inductive Tr where
 | leaf (e:E)
 | panic
 | stuck (n:Nat)
 | br (e:E) (t f:Tr)
 | call (key:Nat) (ks:List CK) (args:E) (v0:Nat) (t:Tr)
 | loop (lv v0:Nat) (vks:List VK) (init:E) (body:Tr)
 | cut (lv v0:Nat) (vks:List VK) (pre body:Tr)
 | next (lv:Nat) (args:E)
 | at(id:Nat) (s:St)
 | any (v0:Nat) (e:E) (t:Tr)
 | both (v0:Nat) (a b:Tr)
 deriving Repr,Inhabited
structure Spec where
 F:Nat->List Dt->List Dt
 pre:Nat->List Dt->Prop
 hw:World->Prop:=fun _=>True
 hx:∀w w',Ext w w'->hw w->hw w':=by exact fun _ _ _ _=>trivial
 hi:∃w,hw w:=by exact⟨default,trivial⟩
def dI (ds:List Dt) (n:Nat):Int:=match ds[n]? with | some (.z x)=>x | _=>0
def dB (ds:List Dt) (n:Nat):Bool:=dI ds n==1
def dL (ds:List Dt) (n:Nat):List (List Int):=match ds[n]? with | some (.l L)=>L | _=>[]
def eqs (U:Env) (ds:List Dt) (v0:Nat):Nat->List CK->Prop
 | _,[]=>True
 | n,.int _::ks=>U.i (v0+n)=dI ds n/\eqs U ds v0 (n+1) ks
 | n,.bool::ks=>U.b (v0+n)=dB ds n/\eqs U ds v0 (n+1) ks
 | n,.sl _ _::ks=>U.l (v0+n)=dL ds n/\eqs U ds v0 (n+1) ks
 | n,_::ks=>eqs U ds v0 (n+1) ks
def Ag (n:Nat) (U U':Env):Prop:=∀i,i<n->U.i i=U'.i i/\U.b i=U'.b i/\U.l i=U'.l i
theorem Ag.refl (n:Nat) (U:Env):Ag n U U:=fun _ _=>⟨rfl,rfl,rfl⟩
theorem Ag.trans {n:Nat} {a b c:Env} (h:Ag n a b) (h':Ag n b c):Ag n a c:=fun i hi=>⟨(h i hi).1.trans (h' i hi).1,(h i hi).2.1.trans (h' i hi).2.1,(h i hi).2.2.trans (h' i hi).2.2⟩
theorem Ag.mono {n m:Nat} {a b:Env} (h:Ag n a b) (hm:m<=n):Ag m a b:=fun i hi=>h i (by omega)
theorem Ag.symm {n:Nat} {a b:Env} (h:Ag n a b):Ag n b a:=fun i hi=>⟨(h i hi).1.symm,(h i hi).2.1.symm,(h i hi).2.2.symm⟩
def inK (k:IntKind) (z:Int):Bool:=decide (k.min<=z)&&decide (z<=k.max)
def inCE:CE->Int->Bool
 | some k,z=>inK k z
 | none,z=>z==0||z==1
def aF:List CE->List Int->Bool
 | [],[]=>true
 | k::ks,x::xs=>inCE k x&&aF ks xs
 | _,_=>false
structure RowsIn (ks:List CE) (L:List (List Int)):Prop where
 row:∀r∈L,aF ks r=true
 len:L.length<=maxLen
def varD (U:Env) (n:Nat):VK->Dt
 | .int _=>.z (U.i n)
 | .bool=>.z (b2i (U.b n))
 | .list _=>.l (U.l n)
def varsD (U:Env):Nat->List VK->List Dt
 | _,[]=>[]
 | n,k::ks=>varD U n k::varsD U (n+1) ks
def okD:VK->Dt->Prop
 | .int k,.z x=>inK k x=true
 | .bool,.z x=>x=0\/x=1
 | .list ks,.l L=>RowsIn ks L
 | _,_=>False
def okDs:List VK->List Dt->Prop
 | [],[]=>True
 | k::ks,d::ds=>okD k d/\okDs ks ds
 | _,_=>False
def upd (I:Nat->List Dt->Prop) (lv:Nat) (p:List Dt->Prop):Nat->List Dt->Prop:=fun n=>if n=lv then p else I n
theorem ab (I:Nat->List Dt->Prop) (lv:Nat) (p:List Dt->Prop):upd I lv p lv=p:=if_pos rfl
theorem rD (I:Nat->List Dt->Prop) {lv n:Nat} (p:List Dt->Prop) (h:n≠lv):upd I lv p n=I n:=if_neg h
def Tr.holds (sp:Spec) (G:Env->E->Prop):Env->(Nat->List Dt->Prop)->Tr->Prop
 | U,_,.leaf e=>G U e
 | _,_,.panic=>False
 | _,_,.stuck _=>False
 | _,_,.at _ _=>False
 | U,I,.br e t f=>(e.B U=true->t.holds sp G U I)/\(e.B U=false->f.holds sp G U I)
 | U,I,.call key ks args v0 t=>sp.pre key (args.D U)/\eqs U (sp.F key (args.D U)) v0 0 ks/\t.holds sp G U I
 | U,I,.next lv args=>I lv (args.D U)
 | U,I,.any v0 e t=>∀z:Int,inK .i64 z=true->∃U',Ag v0 U U'/\U'.i v0=z/\(e.B U'=true->t.holds sp G U' I)
 | U,I,.both v0 a b=>(∃U',Ag v0 U U'/\a.holds sp G U' I)/\∃U',Ag v0 U U'/\b.holds sp G U' I
 | U,I,.loop lv v0 vks init body=>∃(inv:List Dt->Prop) (μ:List Dt->Nat),inv (init.D U)/\
   ∀ds,okDs vks ds->inv ds->∃U',Ag v0 U U'/\varsD U' v0 vks=ds/\body.holds sp G U' (upd I lv fun ds'=>inv ds'/\μ ds'<μ ds)
 | U,I,.cut lv v0 vks pre body=>∃inv:List Dt->Prop,pre.holds sp G U (upd I lv inv)/\
   ∀ds,okDs vks ds->inv ds->∃U',Ag v0 U U'/\varsD U' v0 vks=ds/\body.holds sp G U' I
structure Sm where
 f:Nat
 key:Nat
 args:List Sh
 res:List Sh
 tup:Bool
 deriving Repr,Inhabited
def Sm.ks (s:Sm):List CK:=s.res.flatMap (·.cks)
def Sm.inp (s:Sm):Option (List CE×Nat):=match s.args,s.res with
 | [.one (.sl ks ty)],[]=>some (ks,ty)
 | _,_=>none
structure TI where
 agg:Bool
 size:Nat
 zero:List C
 fields:List (Nat×Nat)
 arr:Option (Nat×Nat)
 ik:Option IntKind
 eqok:Bool
 isb:Bool
 sle:Option Nat
 bytes:Nat
 fnt:Bool
 mapt:Option (Nat×Nat)
 keyok:Bool
 kd:Nat
 deriving Repr,Inhabited
structure Kw where
 pc:List (E×Bool)
 log:List (Nat×E×Nat)
 vk:List VK
 lv:Nat
 deriving Repr,Inhabited
structure KwGe (a b:Kw):Prop where
 lv:a.lv=b.lv
 vk:b.vk.length<=a.vk.length
theorem KwGe.refl (a:Kw):KwGe a a:=⟨rfl,Nat.le_refl _⟩
theorem KwGe.trans {a b c:Kw} (h:KwGe a b) (h':KwGe b c):KwGe a c:=⟨h.lv.trans h'.lv,Nat.le_trans h'.vk h.vk⟩
inductive Pl where
 | top (t:Nat)
 | tmpI (t:Nat) (k:IntKind)
 | tmpB (t:Nat)
 | tmpA (t:Nat) (ks:List CE)
 | tmpS (t:Nat) (ks:List CE) (ty:Nat)
 | tmpX (t:Nat) (ks:List CE) (ty:Nat)
 | cI (b o:Nat) (k:IntKind)
 | celB (b o:Nat)
 | cT (b o:Nat) (ks:List CE) (ty:Nat)
 | celV (b o:Nat) (ks:List CE) (ty:Nat)
 | cels (b o:Nat) (ks:List CE)
 | only(ks:List Nat)
 | row (id:Nat)
 | gone (id:Nat)
 | ask
 deriving Repr,Inhabited
structure Cx where
 ty:List (Nat×TI)
 sm:List Sm
 res:List Sh
 fb:List (List C)
 hints:List (Nat×List Pl)
 cuts:List (Nat×List Pl)
 fns:List (Nat×Func×List (Nat×List Pl)×List (Nat×List Pl))
def av {α:Type} (n:Nat):List (Nat×α)->Option α
 | []=>none
 | (m,a)::l=>if Nat.beq m n then some a else av n l
theorem ah {α:Type} {n:Nat} {a:α}:∀{l:List (Nat×α)},av n l=some a->(n,a)∈l
 | (m,b)::l,h=>by
   simp only[av] at h
   split at h
   ·rename_i hm
    rw[thm1 hm]
    cases h
    exact cd
   ·exact dk _ (ah h)
def kv (op:BinOp) (k:IntKind) (a b:E):E:=
 match a,b with
 | .lit x,.lit y=>.lit (opI op k x y)
 | a,b=>.bin op k a b
theorem uT (U:Env) (op:BinOp) (k:IntKind) (a b:E):(kv op k a b).I U=opI op k (a.I U) (b.I U):=by
 unfold kv;split<;>rfl
def xw (k:IntKind) (a:E):E:=
 match a with
 | .lit x=>.lit (k.wrap x)
 | a=>.conv k a
theorem agm (U:Env) (k:IntKind) (a:E):(xw k a).I U=k.wrap (a.I U):=by
 unfold xw;split<;>rfl
def mkLt (a b:E):E:=
 match a,b with
 | .lit x,.lit y=>.tt (decide (x<y))
 | a,b=>if a.same b then .tt false else .lt a b
theorem fK (U:Env) (a b:E):(mkLt a b).B U=decide (a.I U<b.I U):=by
 unfold mkLt
 split
 ·rfl
 ·split
  ·rename_i h
   rw[E.same_eq h]
   simp[E.B]
  ·rfl
def mkEq (a b:E):E:=
 match a,b with
 | .lit x,.lit y=>.tt (gU x y)
 | a,b=>if a.same b then .tt true else .eq a b
theorem o4 (U:Env) (a b:E):(mkEq a b).B U=(a.I U==b.I U):=by
 unfold mkEq
 split
 ·simp[E.B,E.I,rv]
 ·split
  ·rename_i h
   rw[E.same_eq h]
   simp[E.B]
  ·rfl
def gE (a:E):E:=
 match a with
 | .tt b=>.tt (!b)
 | .not a=>a
 | a=>.not a
theorem dM (U:Env) (a:E):(gE a).B U = !a.B U:=by
 unfold gE;split<;>simp[E.B]
def jD (a b:E):E:=
 match a with
 | .tt true=>b
 | .tt false=>.tt false
 | a=>.and a b
theorem eC (U:Env) (a b:E):(jD a b).B U=(a.B U&&b.B U):=by
 unfold jD;split<;>simp[E.B]
def adv (a b:E):E:=
 match a,b with
 | .tt true,b=>b
 | a,.tt true=>a
 | .tt false,b=>gE b
 | a,.tt false=>gE a
 | a,b=>if a.same b then .tt true else .beq a b
theorem qG (U:Env) (a b:E):(adv a b).B U=(a.B U==b.B U):=by
 unfold adv
 split
 ·simp[E.B]
 ·simp[E.B]
 ·rw[dM];simp only[E.B];cases b.B U<;>rfl
 ·rw[dM];simp only[E.B];cases a.B U<;>rfl
 ·split
  ·rename_i h
   rw[E.same_eq h]
   simp[E.B]
  ·rfl
def adr (a b:E):E:=
 match a,b with
 | .lit x,.lit y=>.lit (min x y)
 | a,b=>if a.same b then a else .mn a b
theorem alm (U:Env) (a b:E):(adr a b).I U=min (a.I U) (b.I U):=by
 unfold adr
 split
 ·rfl
 ·split
  ·rename_i h;rw[E.same_eq h];omega
  ·rfl
def ads (a b:E):E:=
 match a,b with
 | .lit x,.lit y=>.lit (max x y)
 | a,b=>if a.same b then a else .mx a b
theorem aln (U:Env) (a b:E):(ads a b).I U=max (a.I U) (b.I U):=by
 unfold ads
 split
 ·rfl
 ·split
  ·rename_i h;rw[E.same_eq h];omega
  ·rfl
theorem oI (L:List (List Int)) (i:Int) (c:Nat) (x:Int):(st L i c x).length=L.length:=by simp[st]
def fW:E->E
 | .ln=>.lit 0
 | .lset a _ _ _=>fW a
 | .lsetb a _ _ _=>fW a
 | .lput a _ _=>fW a
 | .lq a r=>match fW a with
   | .lit z=>.lit (z+1)
   | _=>.len (.lq a r)
 | .lcat a b=>match fW a,fW b with
   | .lit y,.lit z=>.lit (y+z)
   | _,_=>.len (.lcat a b)
 | .lrep n r=>match n with
   | .lit z=>if decide (0<=z) then .lit z else .len (.lrep n r)
   | n=>.len (.lrep n r)
 | .ltake a n=>match fW a,n with
   | .lit y,.lit z=>.lit (if decide (z<=0) then 0 else if decide (z<=y) then z else y)
   | _,_=>.len (.ltake a n)
 | .ldrop a n=>match fW a,n with
   | .lit y,.lit z=>.lit (if decide (z<=0) then y else if decide (z<=y) then y-z else 0)
   | _,_=>.len (.ldrop a n)
 | a=>.len a
theorem ix (U:Env):∀a:E,(fW a).I U=((a.R U).length:Int):=by
 intro a
 induction a<;>simp only[fW]<;>first | rfl | skip
 case lset ih _ _=>rw[ih];simp[E.R,oI]
 case lsetb ih _ _=>rw[ih];simp[E.R,oI]
 case lput ih _ _=>rw[ih];simp[E.R]
 case lq ih _=>
  split
  ·rename_i z hz
   rw[hz] at ih
   simp only[E.I] at ih
   simp[E.R,E.I,ih]
  ·rfl
 case lcat ih1 ih2=>
  split
  ·rename_i y z hy hz
   rw[hy] at ih1
   rw[hz] at ih2
   simp only[E.I] at ih1 ih2
   simp[E.R,E.I,ih1,ih2]
  ·rfl
 case lrep n r _ _=>
  split
  ·rename_i z
   split
   ·rename_i h
    have:=thm3 h
    simp[E.R,E.I];omega
   ·rfl
  ·rfl
 case ltake a n ih _=>
  split
  ·rename_i y z hy _
   rw[hy] at ih
   simp only[E.I] at ih
   simp only[E.R,E.I,List.length_take]
   split
   ·rename_i h;have:=thm3 h;omega
   ·rename_i h
    have h1:¬z<=0:=fun h2=>h (eA h2)
    split
    ·rename_i h2;have:=thm3 h2;omega
    ·rename_i h2
     have h3:¬z<=y:=fun h4=>h2 (eA h4)
     omega
  ·rfl
 case ldrop a n ih _=>
  split
  ·rename_i y z hy _
   rw[hy] at ih
   simp only[E.I] at ih
   simp only[E.R,E.I,List.length_drop]
   split
   ·rename_i h;have:=thm3 h;omega
   ·rename_i h
    have h1:¬z<=0:=fun h2=>h (eA h2)
    split
    ·rename_i h2;have:=thm3 h2;omega
    ·rename_i h2
     have h3:¬z<=y:=fun h4=>h2 (eA h4)
     omega
  ·rfl
theorem alp (L:List (List Int)) (key:List Int):0<=mixI L key/\mixI L key<=(L.length:Int):=by
 unfold mixI
 have:=List.findIdx_le_length (p:=fun r:List Int=>r.take key.length==key) (xs:=L)
 omega
theorem xN {k:IntKind} {z:Int}:(Lit.int k z).wf=inK k z:=rfl
theorem mw (k:IntKind) (z:Int):inK k (k.wrap z)=true:=wf_wrap k z
theorem xO (op:BinOp) (k:IntKind) (x y:Int):inK k (bits op k x y)=true:=wf_bits op k x y
theorem bL {k:IntKind} {z:Int}:inK k z=true↔k.min<=z/\z<=k.max:=by simp[inK]
theorem adE (k:IntKind):k.min<=0:=by cases k<;>decide
theorem adF (k:IntKind):0<=k.max:=by cases k<;>decide
theorem iP (k:IntKind):inK k 0=true:=bL.2 ⟨adE k,adF k⟩
def E.lenok (vk:List VK):E->Bool
 | .lw n=>match vk[n]? with | some (.list _)=>true | _=>false
 | .ln=>true
 | .lset a _ _ _ | .lsetb a _ _ _ | .lput a _ _ | .ltake a _ | .ldrop a _=>a.lenok vk
 | _=>false
mutual
def E.rng (vk:List VK) (k:IntKind):E->Bool
 | .lit z=>inK k z
 | .var n=>match vk[n]? with | some (.int k')=>bz k' k | _=>false
 | .bin op k' a _=>bz k' k&&(match op with | .add | .sub | .mul | .quo | .shl | .and | .or | .xor | .andNot=>true | .rem | .shr=>a.rng vk k | _=>false)
 | .conv k' _=>bz k' k
 | .mn a b=>a.rng vk k&&b.rng vk k
 | .mx a b=>a.rng vk k&&b.rng vk k
 | .len a=>bz .i64 k&&a.lenok vk
 | .get a _ c=>a.col vk k c
 | .mix l _=>bz .i64 k&&l.lenok vk
 | .nth _ l=>l.lrng vk k
 | .ite _ a b=>a.rng vk k&&b.rng vk k
 | _=>false
 termination_by structural x=>x
def E.col (vk:List VK) (k:IntKind) (c:Nat):E->Bool
 | .lw n=>match vk[n]? with | some (.list ks)=>(match ks[c]? with | some (some k')=>bz k' k | _=>false) | _=>false
 | .ln=>true
 | .lset a _ c' x=>a.col vk k c&&(!Nat.beq c' c||x.rng vk k)
 | .lsetb a _ c' _=>a.col vk k c &&!Nat.beq c' c
 | .lq a r=>a.col vk k c&&r.rcol vk k c
 | .lput a _ r=>a.col vk k c&&r.rcol vk k c
 | .lcat a b=>a.col vk k c&&b.col vk k c
 | .lrep _ r=>r.rcol vk k c
 | .ltake a _ | .ldrop a _=>a.col vk k c
 | _=>false
 termination_by structural x=>x
def E.rcol (vk:List VK) (k:IntKind) (c:Nat):E->Bool
 | .cons a t=>match c with | 0=>a.rng vk k | c+1=>t.rcol vk k c
 | .consb _ t=>match c with | 0=>false | c+1=>t.rcol vk k c
 | .nil=>true
 | _=>false
 termination_by structural x=>x
def E.lrng (vk:List VK) (k:IntKind):E->Bool
 | .nil=>true
 | .cons a t=>a.rng vk k&&t.lrng vk k
 | _=>false
 termination_by structural x=>x
end
def gK (vk:List VK) (b d:Nat):List CE:=match vk[b]? with
 | some (.list ks)=>ks.drop d
 | _=>[]
structure Rm where
 q:List VK
 n:Nat
 g:List CE
 a:Nat
 c:Nat
 q2:List VK
 n2:Nat
structure Rm.ok (vk:List VK) (m:Rm):Prop where
 q:m.q=vk.drop m.n
 g:m.g=gK vk m.a m.c
 q2:m.q2=vk.drop m.n2
def Rm.ini (vk:List VK):Rm:=⟨vk,0,gK vk 0 0,0,0,vk,0⟩
theorem Rm.ini_ok (vk:List VK):(Rm.ini vk).ok vk:=⟨rfl,rfl,rfl⟩
def E.rngW0 (vk:List VK) (k:IntKind) (m:Rm) (e:E):Option Rm:=match e with
 | .var i=>match(bif Nat.beq i m.n then m.q else vk.drop i) with
   | .int k'::q'=>if bz k' k then some ⟨q',i+1,m.g,m.a,m.c,m.q2,m.n2⟩ else none
   | _=>none
 | .get (.lw b) _ d=>match(bif Nat.beq b m.a&&Nat.beq d m.c then m.g else gK vk b d) with
   | some k'::g'=>if bz k' k then some ⟨m.q,m.n,g',b,d+1,m.q2,m.n2⟩ else none
   | _=>none
 | e=>if e.rng vk k then some m else none
def E.rngW (vk:List VK) (k:IntKind) (m:Rm) (e:E):Option Rm:=match e with
 | .ite _ (.var i) b=>match(bif Nat.beq i m.n2 then m.q2 else vk.drop i) with
   | .int k'::q'=>if bz k' k then(b.rngW0 vk k m).map fun m'=>⟨m'.q,m'.n,m'.g,m'.a,m'.c,q',i+1⟩ else none
   | _=>none
 | e=>e.rngW0 vk k m
theorem oc {α:Type} {l:List α} {n:Nat} {x:α} {r:List α} (h:l.drop n=x::r):l[n]? =some x/\r=l.drop (n+1):=by
 refine⟨?_,?_⟩
 ·have:=congrArg (fun l=>l[0]?) h
  simpa using this
 ·have:=congrArg List.tail h
  simpa using this.symm
theorem wT {vk:List VK} {k:IntKind} {m m':Rm} {e:E} (hm:m.ok vk) (h:e.rngW0 vk k m=some m'):e.rng vk k=true/\m'.ok vk:=by
 unfold E.rngW0 at h
 split at h
 ·rename_i i
  have hq:(bif Nat.beq i m.n then m.q else vk.drop i)=vk.drop i:=by
   cases hb:Nat.beq i m.n with
   | false=>rfl
   | true=>rw[thm1 hb];exact hm.q
  rw[hq] at h
  split at h
  ·rename_i k' q' hd
   obtain⟨h0,h1⟩:=oc hd
   split at h
   ·rename_i hk
    cases h
    refine⟨?_,h1,hm.g,hm.q2⟩
    unfold E.rng
    rw[h0];exact hk
   ·cases h
  ·cases h
 ·rename_i b i d
  have hq:(bif Nat.beq b m.a&&Nat.beq d m.c then m.g else gK vk b d)=gK vk b d:=by
   cases hb:Nat.beq b m.a&&Nat.beq d m.c with
   | false=>rfl
   | true=>
     rw[thm0] at hb
     rw[thm1 hb.1,thm1 hb.2];exact hm.g
  rw[hq] at h
  split at h
  ·rename_i k' g' hd
   split at h
   ·rename_i hk
    cases h
    unfold gK at hd
    split at hd
    ·rename_i ks hks
     obtain⟨h0,h1⟩:=oc hd
     refine⟨?_,hm.q,?_,hm.q2⟩
     ·unfold E.rng E.col
      rw[hks];simp only[h0];exact hk
     ·unfold gK
      rw[hks];exact h1
    ·cases hd
   ·cases h
  ·cases h
 ·split at h
  ·rename_i hr
   cases h
   exact⟨hr,hm⟩
  ·cases h
theorem uI {vk:List VK} {k:IntKind} {m m':Rm} {e:E} (hm:m.ok vk) (h:e.rngW vk k m=some m'):e.rng vk k=true/\m'.ok vk:=by
 unfold E.rngW at h
 split at h
 ·rename_i x i b
  have hq:(bif Nat.beq i m.n2 then m.q2 else vk.drop i)=vk.drop i:=by
   cases hb:Nat.beq i m.n2 with
   | false=>rfl
   | true=>rw[thm1 hb];exact hm.q2
  rw[hq] at h
  split at h
  ·rename_i k' q' hd
   obtain⟨h0,h1⟩:=oc hd
   split at h
   ·rename_i hk
    rw[thm4] at h
    obtain⟨m2,h2,rfl⟩:=h
    obtain⟨h3,h4⟩:=wT hm h2
    refine⟨?_,h4.q,h4.g,h1⟩
    have h5:(E.var i).rng vk k=true:=by
     unfold E.rng
     rw[h0];exact hk
    show((E.var i).rng vk k&&b.rng vk k)=true
    rw[h5,h3];rfl
   ·cases h
  ·cases h
 ·exact wT hm h
def E.rok0 (vk:List VK):List CE->E->Bool
 | [],.nil=>true
 | some k::ks,.cons a t=>a.rng vk k&&t.rok0 vk ks
 | none::ks,.consb _ t=>t.rok0 vk ks
 | _,_=>false
def E.rokW (vk:List VK):List CE->E->Rm->Bool
 | [],.nil,_=>true
 | some k::ks,.cons a t,m=>match a.rngW vk k m with
   | some m'=>E.rokW vk ks t m'
   | none=>false
 | none::ks,.consb _ t,m=>E.rokW vk ks t m
 | _,_,_=>false
theorem akU {vk:List VK}:∀{ks:List CE} {e:E} {m:Rm},m.ok vk->E.rokW vk ks e m=true->e.rok0 vk ks=true:=by
 intro ks
 induction ks with
 | nil=>intro e m _ h;cases e<;>first | rfl | cases h
 | cons k ks ih=>
   intro e m hm h
   cases k with
   | none=>cases e<;>first | cases h | exact ih hm h
   | some k=>
     cases e<;>first | cases h | skip
     simp only[E.rokW] at h
     split at h
     ·rename_i m' hw
      obtain⟨h1,h2⟩:=uI hm hw
      simp only[E.rok0,h1,ih h2 h,Bool.and_self]
     ·cases h
def E.rok (vk:List VK) (ks:List CE) (e:E):Bool:=E.rokW vk ks e (Rm.ini vk)
def cO:List CE->List CE->Bool
 | [],[]=>true
 | some k::l,some k'::r=>bz k k'&&cO l r
 | none::l,none::r=>cO l r
 | _,_=>false
def E.lok (vk:List VK) (ks:List CE):E->Bool
 | .lw n=>match vk[n]? with | some (.list ks')=>cO ks' ks | _=>false
 | .ln=>true
 | .lset a _ c x=>a.lok vk ks&&(match ks[c]? with | some (some k)=>x.rng vk k | _=>false)
 | .lsetb a _ c _=>a.lok vk ks&&(match ks[c]? with | some none=>true | _=>false)
 | .lq a r=>a.lok vk ks&&r.rok vk ks
 | .lput a _ r=>a.lok vk ks&&r.rok vk ks
 | .lcat a b=>a.lok vk ks&&b.lok vk ks
 | .lrep _ r=>r.rok vk ks
 | .ltake a _ | .ldrop a _=>a.lok vk ks
 | _=>false
structure Vk (U:Env) (vk:List VK):Prop where
 i:∀n k,vk[n]? =some (.int k)->inK k (U.i n)=true
 l:∀n ks,vk[n]? =some (.list ks)->RowsIn ks (U.l n)
theorem aaT (n:Nat) (b:Int):0<=(n:Int).tmod b/\(n:Int).tmod b<=n:=by
 have h2:0<=(n:Int).tmod b:=Int.tmod_nonneg _ (by omega)
 have h1:((n:Int).tmod b).natAbs=n % b.natAbs:=by rw[Int.natAbs_tmod];rfl
 have h3:=Nat.mod_le n b.natAbs
 have h4:=Int.natAbs_of_nonneg h2
 omega
theorem afn {a b:Int}:(0<=a->0<=a.tmod b/\a.tmod b<=a)/\(a<=0->a<=a.tmod b/\a.tmod b<=0):=by
 constructor
 ·intro h
  obtain⟨n,rfl⟩:=jv h
  exact aaT n b
 ·intro h
  obtain⟨n,hn⟩:=jv (show 0 <= -a by omega)
  have ha:a = -(n:Int):=by omega
  subst ha
  rw[Int.neg_tmod]
  have:=aaT n b
  omega
theorem agR {a:Int} {n:Nat}:(0<=a->0<=a.fdiv (2 ^ n)/\a.fdiv (2 ^ n)<=a)/\(a<=0->a<=a.fdiv (2 ^ n)/\a.fdiv (2 ^ n)<=0):=by
 have hp:(0:Int)<2 ^ n:=Int.pow_pos (by omega)
 rw[Int.fdiv_eq_ediv_of_nonneg _ (by omega)]
 constructor
 ·intro h
  exact⟨Int.ediv_nonneg h (by omega),Int.ediv_le_self _ h⟩
 ·intro h
  refine⟨?_,Int.ediv_nonpos_of_nonpos_of_neg h hp⟩
  rw[Int.le_ediv_iff_mul_le hp]
  have h1:(1:Int)<=2 ^ n:=by omega
  have:=Int.mul_le_mul_of_nonpos_left h h1
  omega
theorem cG:∀{a b:List CE},cO a b=true->a=b
 | [],[],_=>rfl
 | some k::l,some k'::r,h=>by
   simp only[cO,thm0] at h
   rw[aD h.1,cG h.2]
 | none::l,none::r,h=>by rw[cG (a:=l) (b:=r) h]
def kdOf (ks:List CE):RK:=if cO ks evKs then .ev else .sl
theorem cj (ks:List CE):(ks=evKs/\kdOf ks=.ev)\/(cO ks evKs=false/\kdOf ks=.sl):=by
 unfold kdOf
 cases h:cO ks evKs with
 | true=>exact .inl ⟨cG h,rfl⟩
 | false=>exact .inr ⟨rfl,rfl⟩
def RK.isEv:RK->Bool
 | .ev=>true
 | _=>false
theorem RK.isEv_eq {k:RK} (h:k.isEv=true):k=.ev:=by cases k<;>first | rfl | cases h
def RK.fits (k:RK) (ks:List CE):Bool:=match k with
 | .sl=>!cO ks evKs
 | .ev=>cO ks evKs
 | _=>false
theorem RK.fits_eq {k:RK} {ks:List CE} (h:k.fits ks=true):k=kdOf ks:=by
 unfold RK.fits at h
 unfold kdOf
 split at h
 ·rw[if_neg (by simpa using h)]
 ·rw[if_pos h]
 ·cases h
theorem sE {ks:List CE} {r:List Int} (h:aF ks r=true) {c:Nat} {k:CE} (hc:ks[c]? =some k):inCE k (r.getD c 0)=true:=by
 induction ks generalizing r c with
 | nil=>simp at hc
 | cons k0 ks ih=>
   cases r with
   | nil=>cases h
   | cons x xs=>
     simp only[aF,thm0] at h
     cases c with
     | zero=>simp at hc;subst hc;exact h.1
     | succ c=>simpa using ih h.2 (by simpa using hc)
theorem lE {ks:List CE} {r:List Int} (h:aF ks r=true):r.length=ks.length:=by
 induction ks generalizing r with
 | nil=>cases r with
   | nil=>rfl
   | cons=>cases h
 | cons k0 ks ih=>cases r with
   | nil=>cases h
   | cons x xs=>
     simp only[aF,thm0] at h
     simp[ih h.2]
theorem ni {ks:List CE} {r:List Int} (h:aF ks r=true) {c:Nat} {k:CE} (hc:ks[c]? =some k) {x:Int} (hx:inCE k x=true):aF ks (r.set c x)=true:=by
 induction ks generalizing r c with
 | nil=>simp at hc
 | cons k0 ks ih=>
   cases r with
   | nil=>cases h
   | cons y ys=>
     simp only[aF,thm0] at h
     cases c with
     | zero=>simp at hc;subst hc;simp[aF,hx,h.2]
     | succ c=>simp[aF,h.1,ih h.2 (by simpa using hc)]
theorem an3 {L:List (List Int)} {c:Nat} {k:IntKind} (h:∀r∈L,inK k (r.getD c 0)=true) (i:Int):inK k (gt L i c)=true:=by
 unfold gt
 cases hr:L[i.toNat]? with
 | none=>
   rw[show L.getD i.toNat []=[] from by rw[eb,hr];rfl]
   exact iP k
 | some r=>
   rw[show L.getD i.toNat []=r from by rw[eb,hr];rfl]
   exact h r (fT hr)
theorem sV {L:List (List Int)} {i:Int} {c:Nat} {x:Int} {r:List Int} (h:r∈st L i c x):r∈L\/(∃r0∈L,r=r0.set c x):=by
 unfold st at h
 rcases List.mem_or_eq_of_mem_set h with h1 | h1
 ·exact .inl h1
 ·by_cases hi:i.toNat<L.length
  ·refine .inr ⟨L[i.toNat],List.getElem_mem _,?_⟩
   rw[h1,eb,thm6 hi]
   rfl
  ·rw[List.set_eq_of_length_le (by omega)] at h
   exact .inl h
theorem gj (L:List (List Int)) (i:Int) (c:Nat) (x:Int):(st L i c x).length=L.length:=by simp[st]
theorem vY {r:List Int} {c c':Nat} {x:Int} (h:c'≠c):(r.set c' x).getD c 0=r.getD c 0:=by
 simp[eb,List.getElem?_set_ne h]
theorem pW {r:List Int} {c:Nat} {x:Int} {k:IntKind} (hx:inK k x=true):inK k ((r.set c x).getD c 0)=true:=by
 rw[eb,dT]
 simp only[if_true]
 split
 ·simpa using hx
 ·simpa using iP k
theorem xC {U:Env} {vk:List VK} (hv:Vk U vk):∀(e:E),e.lenok vk=true->(e.R U).length<=maxLen:=by
 intro e
 induction e<;>intro h<;>simp only[E.lenok] at h<;>first | cases h | skip
 case lw n=>
  split at h
  ·rename_i ks hk;exact(hv.l n ks hk).len
  ·cases h
 case ln=>simp[E.R]
 case lset ih _ _=>simpa[E.R,gj] using ih h
 case lput ih _ _=>simpa[E.R] using ih h
 case lsetb ih _ _=>simpa[E.R,gj] using ih h
 case ltake ih _=>exact Nat.le_trans (by simp only[E.R,List.length_take];omega) (ih h)
 case ldrop ih _=>exact Nat.le_trans (by simp[E.R]) (ih h)
theorem E.rngs_ok {U:Env} {vk:List VK} (hv:Vk U vk):∀(e:E),(∀k,e.rng vk k=true->inK k (e.I U)=true)/\(∀k c,e.col vk k c=true->∀r∈e.R U,inK k (r.getD c 0)=true)/\(∀k c,e.rcol vk k c=true->inK k ((e.L U).getD c 0)=true)/\(∀k,e.lrng vk k=true->∀x∈e.L U,inK k x=true):=by
 intro e
 induction e<;>refine⟨fun k h=> ?_,fun k c h=> ?_,fun k c h=> ?_,fun k h=> ?_⟩<;>(try simp only[E.rng,E.col,E.rcol,E.lrng] at h)<;>first | exact Bool.noConfusion h | skip
 case lit.refine_1=>exact h
 case var.refine_1 n=>
  split at h
  ·rename_i k' hk
   have:=hv.i n k' hk
   rw[aD h] at this
   exact this
  ·cases h
 case bin.refine_1 op k' a b iha ihb=>
  rw[thm0] at h
  obtain⟨h1,h2⟩:=h
  have:=aD h1
  subst this
  have tail:∀x:Int,a.rng vk k'=true->((0<=a.I U->0<=x/\x<=a.I U)/\(a.I U<=0->a.I U<=x/\x<=0))->inK k' x=true:=by
   intro x ha hx
   have h3:=bL.1 (iha.1 k' ha)
   have:=adE k'
   have:=adF k'
   rw[bL]
   by_cases h0:0<=a.I U
   ·have:=hx.1 h0;omega
   ·have:=hx.2 (by omega);omega
  simp only[E.I]
  cases op<;>first
   | exact mw _ _
   | exact xO _ _ _ _
   | exact tail _ h2 afn
   | exact tail _ h2 agR
   | cases h2
 case conv.refine_1 k' a _=>rw[<-aD h];exact mw _ _
 case mn.refine_1 a b iha ihb=>
  rw[thm0] at h
  have h1:=bL.1 (iha.1 k h.1)
  have h2:=bL.1 (ihb.1 k h.2)
  rw[bL]
  simp only[E.I]
  omega
 case mx.refine_1 a b iha ihb=>
  rw[thm0] at h
  have h1:=bL.1 (iha.1 k h.1)
  have h2:=bL.1 (ihb.1 k h.2)
  rw[bL]
  simp only[E.I]
  omega
 case len.refine_1 a _=>
  rw[thm0] at h
  have h1:=xC hv a h.2
  rw[<-aD h.1,bL]
  simp only[E.I,maxLen] at h1 ⊢
  simp only[IntKind.min,IntKind.max,IntKind.signed,IntKind.bits]
  simp
  omega
 case get.refine_1 a i c iha _=>exact an3 (iha.2.1 k c h) _
 case mix.refine_1 l key _ _=>
  rw[thm0] at h
  have h1:=xC hv l h.2
  have h2:=alp (l.R U) (key.L U)
  rw[<-aD h.1,bL]
  simp only[E.I,maxLen] at h1 ⊢
  simp only[IntKind.min,IntKind.max,IntKind.signed,IntKind.bits]
  simp
  omega
 case nth.refine_1 i l _ ihl=>
  simp only[E.I]
  rw[eb]
  cases hx:(l.L U)[(i.I U).toNat]? with
  | none=>exact iP k
  | some x=>exact ihl.2.2.2 k h x (fT hx)
 case ite.refine_1 c a b _ iha ihb=>
  rw[thm0] at h
  simp only[E.I]
  split
  ·exact iha.1 k h.1
  ·exact ihb.1 k h.2
 case nil.refine_4=>intro x hx;simp[E.L] at hx
 case cons.refine_4 a t iha iht=>
  rw[thm0] at h
  intro x hx
  simp only[E.L,List.mem_cons] at hx
  rcases hx with rfl | hx
  ·exact iha.1 k h.1
  ·exact iht.2.2.2 k h.2 x hx
 case nil.refine_3=>simpa[E.L] using iP k
 case cons.refine_3 a t iha iht=>
  cases c with
  | zero=>simpa[E.L] using iha.1 k h
  | succ c=>simpa[E.L] using iht.2.2.1 k c h
 case consb.refine_3 b t _ iht=>
  cases c with
  | zero=>cases h
  | succ c=>simpa[E.L] using iht.2.2.1 k c h
 case lw.refine_2 n=>
  split at h
  ·rename_i ks hks
   split at h
   ·rename_i k' hk
    intro r hr
    have:=sE ((hv.l n ks hks).row r hr) hk
    rw[aD h] at this
    exact this
   ·cases h
  ·cases h
 case ln.refine_2=>intro r hr;cases hr
 case lset.refine_2 a i c' x iha _ ihx=>
  rw[thm0] at h
  intro r hr
  rcases sV hr with hr | ⟨r0,hr0,rfl⟩
  ·exact iha.2.1 k c h.1 r hr
  ·by_cases hc:c'=c
   ·subst hc
    have h2:=h.2
    rw[show Nat.beq c' c'=true from by simp] at h2
    exact pW (ihx.1 k (by simpa using h2))
   ·rw[vY hc];exact iha.2.1 k c h.1 r0 hr0
 case lsetb.refine_2 a i c' x iha _ _=>
  rw[thm0] at h
  intro r hr
  have hc:c'≠c:=fun e=>by have:=h.2;rw[e] at this;simp at this
  rcases sV hr with hr | ⟨r0,hr0,rfl⟩
  ·exact iha.2.1 k c h.1 r hr
  ·rw[vY hc];exact iha.2.1 k c h.1 r0 hr0
 case lput.refine_2 a i r iha _ ihr=>
  rw[thm0] at h
  intro x hx
  rcases List.mem_or_eq_of_mem_set hx with hx | rfl
  ·exact iha.2.1 k c h.1 x hx
  ·exact ihr.2.2.1 k c h.2
 case lq.refine_2 a r iha ihr=>
  rw[thm0] at h
  intro x hx
  simp only[E.R,List.mem_append,fj] at hx
  rcases hx with hx | rfl
  ·exact iha.2.1 k c h.1 x hx
  ·exact ihr.2.2.1 k c h.2
 case lcat.refine_2 a b iha ihb=>
  rw[thm0] at h
  intro x hx
  simp only[E.R,List.mem_append] at hx
  rcases hx with hx | hx
  ·exact iha.2.1 k c h.1 x hx
  ·exact ihb.2.1 k c h.2 x hx
 case lrep.refine_2 n r _ ihr=>
  intro x hx
  simp only[E.R,List.mem_replicate] at hx
  rw[hx.2]
  exact ihr.2.2.1 k c h
 case ltake.refine_2 a n iha _=>intro x hx;exact iha.2.1 k c h x (List.mem_of_mem_take hx)
 case ldrop.refine_2 a n iha _=>intro x hx;exact iha.2.1 k c h x (List.mem_of_mem_drop hx)
theorem E.rng_ok {U:Env} {vk:List VK} {k:IntKind} (hv:Vk U vk) (e:E) (h:e.rng vk k=true):inK k (e.I U)=true:=(E.rngs_ok hv e).1 k h
theorem E.rok0_ok {U:Env} {vk:List VK} (hv:Vk U vk):∀{ks:List CE} {e:E},e.rok0 vk ks=true->aF ks (e.L U)=true:=by
 intro ks
 induction ks with
 | nil=>intro e h;cases e<;>first | rfl | cases h
 | cons k ks ih=>
   intro e h
   cases k with
   | none=>
     cases e<;>first | cases h | skip
     simp only[E.rok0] at h
     rename_i b t
     simp only[E.L,aF,thm0]
     exact⟨by cases b.B U<;>rfl,ih h⟩
   | some k=>
     cases e<;>first | cases h | skip
     simp only[E.rok0,thm0] at h
     simp only[E.L,aF,thm0]
     exact⟨E.rng_ok hv _ h.1,ih h.2⟩
theorem E.rok_ok {U:Env} {vk:List VK} (hv:Vk U vk) {ks:List CE} {e:E} (h:e.rok vk ks=true):aF ks (e.L U)=true:=E.rok0_ok hv (akU (Rm.ini_ok vk) h)
theorem aeP (b:Bool):inCE none (b2i b)=true:=by cases b<;>rfl
theorem E.lok_ok {U:Env} {vk:List VK} (hv:Vk U vk) {ks:List CE}:∀(e:E),e.lok vk ks=true->∀r∈e.R U,aF ks r=true:=by
 intro e
 induction e<;>intro h<;>simp only[E.lok] at h<;>first | exact Bool.noConfusion h | skip
 case lw n=>
  split at h
  ·rename_i ks' hk
   rw[<-cG h]
   exact(hv.l n ks' hk).row
  ·cases h
 case ln=>intro r hr;cases hr
 case lset a i c x iha _ _=>
  rw[thm0] at h
  intro r hr
  rcases sV hr with hr | ⟨r0,hr0,rfl⟩
  ·exact iha h.1 r hr
  ·have h2:=h.2
   split at h2
   ·rename_i k hk
    exact ni (iha h.1 r0 hr0) hk (E.rng_ok hv x h2)
   ·cases h2
 case lsetb a i c x iha _ _=>
  rw[thm0] at h
  intro r hr
  rcases sV hr with hr | ⟨r0,hr0,rfl⟩
  ·exact iha h.1 r hr
  ·have h2:=h.2
   split at h2
   ·rename_i hk
    exact ni (iha h.1 r0 hr0) hk (aeP _)
   ·cases h2
 case lput a i r iha _ _=>
  rw[thm0] at h
  intro x hx
  rcases List.mem_or_eq_of_mem_set hx with hx | rfl
  ·exact iha h.1 x hx
  ·exact E.rok_ok hv h.2
 case lq a r iha _=>
  rw[thm0] at h
  intro x hx
  simp only[E.R,List.mem_append,fj] at hx
  rcases hx with hx | rfl
  ·exact iha h.1 x hx
  ·exact E.rok_ok hv h.2
 case lcat a b iha ihb=>
  rw[thm0] at h
  intro x hx
  simp only[E.R,List.mem_append] at hx
  rcases hx with hx | hx
  ·exact iha h.1 x hx
  ·exact ihb h.2 x hx
 case lrep n r _ _=>
  intro x hx
  simp only[E.R,List.mem_replicate] at hx
  rw[hx.2]
  exact E.rok_ok hv h
 case ltake a n iha _=>intro x hx;exact iha h x (List.mem_of_mem_take hx)
 case ldrop a n iha _=>intro x hx;exact iha h x (List.mem_of_mem_drop hx)
def Kw.look (e:E):List (E×Bool)->Option Bool
 | []=>none
 | (x,b)::l=>if x.same e then some b else Kw.look e l
structure Good (sp:Spec) (sm:List Sm) (U:Env) (kw:Kw):Prop where
 pc:∀p∈kw.pc,p.1.B U=p.2
 vk:Vk U kw.vk
 log:∀p∈kw.log,∃s∈sm,s.key=p.1/\sp.pre s.key (p.2.1.D U)/\eqs U (sp.F s.key (p.2.1.D U)) p.2.2 0 s.ks
theorem adz {U:Env} {e:E} {b:Bool}:∀{l:List (E×Bool)},(∀p∈l,p.1.B U=p.2)->Kw.look e l=some b->e.B U=b
 | (x,c)::l,hl,h=>by
   simp only[Kw.look] at h
   split at h
   ·rename_i hs
    have:=hl (x,c) cd
    rw[<-E.same_eq hs]
    cases h
    exact this
   ·exact adz (fun p hp=>hl p (dk _ hp)) h
def acY (vk:List VK):E->Option Bool
 | .lt (.lit z) (.var n)=>match vk[n]? with
   | some (.int k)=>if decide (k.max<=z) then some false else none
   | _=>none
 | .lt (.var n) (.lit z)=>match vk[n]? with
   | some (.int k)=>if decide (z<=k.min) then some false else none
   | _=>none
 | .lt (.len _) (.lit z)=>if decide (z<=0) then some false else none
 | _=>none
theorem acX {U:Env} {vk:List VK} (hv:Vk U vk) {e:E} {b:Bool} (h:acY vk e=some b):e.B U=b:=by
 unfold acY at h
 split at h
 ·split at h
  ·rename_i k hk
   split at h
   ·rename_i hz
    cases h
    have h1:=bL.1 (hv.i _ _ hk)
    have h2:=thm3 hz
    simp only[E.B,E.I]
    exact eR (by omega)
   ·cases h
  ·cases h
 ·split at h
  ·rename_i k hk
   split at h
   ·rename_i hz
    cases h
    have h1:=bL.1 (hv.i _ _ hk)
    have h2:=thm3 hz
    simp only[E.B,E.I]
    exact eR (by omega)
   ·cases h
  ·cases h
 ·split at h
  ·rename_i hz
   cases h
   have h2:=thm3 hz
   simp only[E.B,E.I]
   exact eR (by omega)
  ·cases h
 ·cases h
def aei (a:E) (y:Int):List (E×Bool)->Bool
 | []=>false
 | (.eq a' (.lit x),true)::l=>(!gU x y&&a'.same a)||aei a y l
 | _::l=>aei a y l
def ah1:List (E×Bool)->Bool
 | []=>false
 | [(.tt true,true)]=>true
 | _::l=>ah1 l
def Kw.ex (e:E) (pc:List (E×Bool)):Option Bool:=match e with
 | .eq a (.lit y)=>if ah1 pc&&aei a y pc then some false else none
 | _=>none
theorem xT {U:Env} {a:E} {y:Int}:∀{l:List (E×Bool)},(∀p∈l,p.1.B U=p.2)->aei a y l=true->(E.eq a (.lit y)).B U=false
 | p::l,hp,h=>by
   have ih:=xT (a:=a) (y:=y) (l:=l) (fun q hq=>hp q (dk _ hq))
   unfold aei at h
   split at h
   ·rename_i h0;cases h0
   ·rename_i a' x l' h0
    cases h0
    rw[ey,thm0] at h
    rcases h with h | h
    ·have h1:=hp _ cd
     simp only[E.B,E.I,aZ] at h1
     simp only[E.B,E.I,beq_eq_false_iff_ne]
     intro h2
     rw[<-E.same_eq h.2,h1] at h2
     subst h2
     have h3:gU x x=true:=by rw[rv];exact beq_self_eq_true x
     rw[h3] at h
     cases h.1
    ·exact ih h
   ·rename_i h0
    cases h0
    exact ih h
theorem apY {U:Env} {e:E} {b:Bool} {l:List (E×Bool)} (hp:∀p∈l,p.1.B U=p.2) (h:Kw.ex e l=some b):e.B U=b:=by
 unfold Kw.ex at h
 split at h
 ·split at h
  ·rename_i hq
   cases h
   exact xT hp (thm0 _ _ |>.mp hq).2
  ·cases h
 ·cases h
def decA (e:E) (k:Bool->Kw->Tr) (kw:Kw):Tr:=
 match acY kw.vk e with
 | some b=>k b kw
 | none=>match Kw.look e kw.pc with
 | some b=>k b kw
 | none=>match Kw.ex e kw.pc with
 | some b=>k b kw
 | none=>.br e (k true {kw with pc:=(e,true)::kw.pc}) (k false {kw with pc:=(e,false)::kw.pc})
def decK:E->(Bool->Kw->Tr)->Kw->Tr
 | .tt b,k,kw=>k b kw
 | .not a,k,kw=>decK a (fun b kw=>k (!b) kw) kw
 | .and a b,k,kw=>decK a (fun x kw=>if x then decK b k kw else k false kw) kw
 | e,k,kw=>decA e k kw
section
variable {sp:Spec} {sm:List Sm} {U:Env} {G:Env->E->Prop} {I:Nat->List Dt->Prop}
theorem al7 {e:E} {k:Bool->Kw->Tr} {kw:Kw} (h:(decA e k kw).holds sp G U I) (hg:Good sp sm U kw):∃kw',(k (e.B U) kw').holds sp G U I/\Good sp sm U kw'/\kw'.vk=kw.vk/\KwGe kw' kw:=by
 unfold decA at h
 split at h
 ·rename_i b hb
  rw[acX hg.vk hb]
  exact⟨kw,h,hg,rfl,.refl _⟩
 split at h
 ·rename_i b hb
  rw[adz hg.pc hb]
  exact⟨kw,h,hg,rfl,.refl _⟩
 split at h
 ·rename_i b hb
  rw[apY hg.pc hb]
  exact⟨kw,h,hg,rfl,.refl _⟩
 ·cases hb:e.B U with
  | true=>exact⟨_,h.1 hb,⟨fun p hp=>by
    rcases List.mem_cons.1 hp with rfl | hp
    ·exact hb
    ·exact hg.pc p hp,hg.vk,hg.log⟩,rfl,rfl,Nat.le_refl _⟩
  | false=>exact⟨_,h.2 hb,⟨fun p hp=>by
    rcases List.mem_cons.1 hp with rfl | hp
    ·exact hb
    ·exact hg.pc p hp,hg.vk,hg.log⟩,rfl,rfl,Nat.le_refl _⟩
theorem bv:∀(e:E) (k:Bool->Kw->Tr) (kw:Kw),(decK e k kw).holds sp G U I->Good sp sm U kw->∃kw',(k (e.B U) kw').holds sp G U I/\Good sp sm U kw'/\kw'.vk=kw.vk/\KwGe kw' kw
 | .tt b,k,kw,h,hg=>⟨kw,h,hg,rfl,.refl _⟩
 | .not a,k,kw,h,hg=>bv a (fun b kw=>k (!b) kw) kw h hg
 | .and a b,k,kw,h,hg=>by
   obtain⟨kw1,h1,g1,v1,l1⟩:=bv a _ kw h hg
   simp only[E.B]
   cases ha:a.B U with
   | true=>
     rw[ha] at h1
     obtain⟨kw2,h2,g2,v2,l2⟩:=bv b k kw1 h1 g1
     exact⟨kw2,h2,g2,v2.trans v1,l2.trans l1⟩
   | false=>
     rw[ha] at h1
     exact⟨kw1,h1,g1,v1,l1⟩
 | .lit _,k,kw,h,hg | .var _,k,kw,h,hg | .bin _ _ _ _,k,kw,h,hg | .conv _ _,k,kw,h,hg | .mn _ _,k,kw,h,hg | .mx _ _,k,kw,h,hg | .nil,k,kw,h,hg
 | .len _,k,kw,h,hg | .get _ _ _,k,kw,h,hg | .cL _ _,k,kw,h,hg | .getb _ _ _,k,kw,h,hg | .lw _,k,kw,h,hg | .ln,k,kw,h,hg | .lset _ _ _ _,k,kw,h,hg | .lsetb _ _ _ _,k,kw,h,hg | .lq _ _,k,kw,h,hg | .lcat _ _,k,kw,h,hg | .lrep _ _,k,kw,h,hg | .ltake _ _,k,kw,h,hg | .ldrop _ _,k,kw,h,hg | .mix _ _,k,kw,h,hg | .lput _ _ _,k,kw,h,hg | .nth _ _,k,kw,h,hg | .ite _ _ _,k,kw,h,hg | .leq _ _,k,kw,h,hg
 | .cons _ _,k,kw,h,hg | .consb _ _,k,kw,h,hg | .bw _,k,kw,h,hg | .lt _ _,k,kw,h,hg | .eq _ _,k,kw,h,hg | .beq _ _,k,kw,h,hg=>al7 h hg
end
inductive RE where
 | none
 | set (id:Nat) (r:RowOb)
 | mk (rs:List RowOb)
 | app (old:Nat) (r:RowOb)
 | view (old:Nat) (q r:RowOb)
 | frz (old:Nat) (q r:RowOb)
 | peek (r:RowOb)
 | tset (old:Nat) (q:RowOb) (tab:Nat) (r:RowOb)
 deriving Repr,Inhabited
def mkRs:Nat->List RowOb->List (Nat×Option RowOb)
 | _,[]=>[]
 | n,r::l=>(n,some r)::mkRs (n+1) l
def RE.rs (nid:Nat):RE->List (Nat×Option RowOb)
 | .none=>[]
 | .set id r=>[(id,some r)]
 | .mk rs=>mkRs nid rs
 | .app old r=>[(old,Option.none),(nid,some r)]
 | .view old q r=>[(old,some q),(nid,some r)]
 | .frz old q r=>[(old,some q),(nid,some r)]
 | .peek r=>[(nid,some r)]
 | .tset old q tab r=>[(old,some q),(tab,some r)]
def ir (ld:Nat->Nat->Option C) (b:Nat):Nat->Nat->Option (List C)
 | _,0=>some []
 | o,n+1=>match ld b o,ir ld b (o+1) n with
   | some c,some cs=>some (c::cs)
   | _,_=>none
def aa1:List C->Nat->Option (List C)
 | _,0=>some []
 | c::cs,n+1=>(aa1 cs n).map (c::·)
 | [],_+1=>none
def seg:List C->Nat->Nat->Option (List C)
 | cs,0,n=>aa1 cs n
 | _::cs,o+1,n=>seg cs o n
 | [],_+1,_=>none
theorem vO {ld:Nat->Nat->Option C} {b:Nat}:∀{n:Nat} {cs ds:List C} {o:Nat},aa1 cs n=some ds->(∀i,ld b (o+i)=cs[i]?)->ir ld b o n=some ds
 | 0,cs,ds,o,h,_=>by
   have:ds=[]:=by cases cs<;>simpa[aa1] using h.symm
   subst this
   rfl
 | n+1,c::cs,ds,o,h,hl=>by
   simp only[aa1,thm4] at h
   obtain⟨es,h1,rfl⟩:=h
   have h2:=vO (ld:=ld) (b:=b) (o:=o+1) h1 (fun i=>by rw[show o+1+i=o+(i+1) by omega,hl];rfl)
   have h0:=hl 0
   simp only[Nat.add_zero,ce] at h0
   simp only[ir,h0,h2]
 | n+1,[],ds,o,h,_=>by cases h
theorem abq {ld:Nat->Nat->Option C} {b:Nat} {n:Nat}:∀{o k:Nat} {cs ds:List C},seg cs o n=some ds->(∀i,ld b (k+i)=cs[i]?)->ir ld b (k+o) n=some ds
 | 0,k,cs,ds,h,hl=>vO (cs:=cs) (by cases cs<;>exact h) hl
 | o+1,k,c::cs,ds,h,hl=>by
   have:=abq (ld:=ld) (b:=b) (o:=o) (k:=k+1) (cs:=cs) (ds:=ds) h (fun i=>by rw[show k+1+i=k+(i+1) by omega,hl];rfl)
   rwa [show k+(o+1)=k+1+o by omega]
 | o+1,k,[],ds,h,_=>by cases h
structure Vw where
 ev:Operand->Option V
 ld:Nat->Nat->Option C
 rw:Nat->Option RowOb
 fb:Nat->Option (List C)
 nid:Nat
 row:Nat->Nat->Nat->Option (List C)
 rowok:∀b o n cs,row b o n=some cs->ir ld b o n=some cs
def Vw.sw (vw:Vw) (id:Nat):Option RowOb:=match vw.rw id with
 | some r=>if r.kd.isSl then some r else none
 | none=>none
theorem Vw.sw_some {vw:Vw} {id:Nat} {r:RowOb} (h:vw.sw id=some r):vw.rw id=some r/\r.kd=.sl:=by
 unfold Vw.sw at h
 split at h
 ·rename_i q hq
  split at h
  ·rename_i hk
   cases h
   refine⟨hq,?_⟩
   cases hd:r.kd with
   | sl=>rfl
   | _=>rw[hd] at hk;cases hk
  ·cases h
 ·cases h
def Vw.tw (vw:Vw) (id:Nat):Option RowOb:=match vw.rw id with
 | some r=>if r.kd.fits r.ks then some r else none
 | none=>none
theorem Vw.tw_some {vw:Vw} {id:Nat} {r:RowOb} (h:vw.tw id=some r):vw.rw id=some r/\r.kd=kdOf r.ks:=by
 unfold Vw.tw at h
 split at h
 ·rename_i q hq
  split at h
  ·rename_i hk
   cases h
   exact⟨hq,RK.fits_eq hk⟩
  ·cases h
 ·cases h
structure Eff where
 val:V
 al:Option (List C×Nat):=none
 rd:List (Nat×Nat):=[]
 wr:List (Nat×Nat×C):=[]
 rr:List Nat:=[]
 re:RE:=.none
 deriving Repr,Inhabited
def oX:Value->Option C
 | .int k z=>some (.int k (.lit z))
 | .bool b=>some (.bool (.tt b))
 | .pointer none=>some .np
 | .func (.func f) ⟨[]⟩ ⟨[]⟩=>some (.fn f)
 | .slice none 0 0=>some .nsl
 | .nilFunc=>some .nf
 | .map none=>some .nmp
 | .string ⟨⟨[]⟩⟩=>some (.str .ln)
 | _=>none
def lh:List Value->Option (List C)
 | []=>some []
 | v::vs=>match oX v,lh vs with
   | some c,some cs=>some (c::cs)
   | _,_=>none
def ofValue:Value->Option V
 | .agg ⟨vs⟩=>(lh vs).map .agg
 | v=>(oX v).map .one
theorem sQ {v:Value} {c:C} (h:oX v=some c) (U:Env) (j:J):c.den U j=some v:=by
 unfold oX at h
 split at h<;>cases h<;>rfl
theorem oW (U:Env) (j:J):∀{vs:List Value} {cs:List C},lh vs=some cs->denL U j cs=some vs
 | [],cs,h=>by cases h;rfl
 | v::vs,cs,h=>by
   simp only[lh] at h
   cases hc:oX v with
   | none=>rw[hc] at h;cases h
   | some c=>
     cases hl:lh vs with
     | none=>rw[hc,hl] at h;cases h
     | some l=>
       rw[hc,hl] at h;cases h
       simp only[denL,sQ hc,oW U j hl]
theorem yU {v:Value} {x:V} (h:ofValue v=some x) (U:Env) (j:J):x.den U j=some v:=by
 unfold ofValue at h
 split at h
 ·rename_i vs
  cases hc:lh vs with
  | none=>rw[hc] at h;cases h
  | some cs=>
    rw[hc] at h;cases h
    simp[V.den,oW U j hc]
 ·cases hc:oX v with
  | none=>rw[hc] at h;cases h
  | some c=>
    rw[hc] at h;cases h
    exact sQ hc U j
def V.cells:V->List C
 | .one c=>[c]
 | .agg cs=>cs
 | .tup _=>[]
 | .top=>[]
def V.flat:V->Bool
 | .tup _=>false
 | .top=>false
 | _=>true
theorem vv {U:Env} {j:J} {c:C} {v:Value} (h:c.den U j=some v):v.cells = #[v]:=by
 cases c<;>simp only[C.den,thm4] at h
 case ptr b o=>obtain⟨k,_,rfl⟩:=h;rfl
 case fp b o=>obtain⟨k,_,rfl⟩:=h;rfl
 case sl id=>obtain⟨k,_,rfl⟩:=h;rfl
 case ep id esz e off=>
  simp only[cz,SV.elem,thm4] at h
  obtain⟨k,_,a,_,rfl⟩:=h
  rfl
 case clo=>obtain⟨x,y,_,_,rfl⟩:=fB h;rfl
 case mp id=>obtain⟨k,_,rfl⟩:=h;rfl
 case yld id=>obtain⟨k,_,rfl⟩:=h;rfl
 case wn id sz lo hi mx=>obtain⟨k,_,rfl⟩:=h;rfl
 case aw b o n sz lo hi mx=>obtain⟨k,_,rfl⟩:=h;rfl
 case pe b o n sz e off=>obtain⟨k,_,rfl⟩:=h;rfl
 case itp id mid=>obtain⟨_,_,_,_,_,rfl⟩:=aip (U:=U) h;rfl
 all_goals cases h;rfl
theorem V.cells_ok {U:Env} {j:J} {x:V} {v:Value} (h:x.den U j=some v) (hf:x.flat=true):denL U j x.cells=some v.cells.toList:=by
 cases x with
 | one c=>
   have h':c.den U j=some v:=h
   simp[V.cells,denL,h',vv h']
 | agg cs=>
   simp only[V.den,thm4] at h
   obtain⟨vs,hvs,rfl⟩:=h
   simpa[V.cells,Value.cells] using hvs
 | tup _=>cases hf
 | top=>cases hf
def C.solid:C->Bool
 | .undef=>false
 | _=>true
theorem C.solid_ok {U:Env} {j:J} {c:C} {v:Value} (h:c.den U j=some v) (hs:c.solid=true):v.oneCell'=true:=by
 cases c<;>simp only[C.den,thm4] at h
 case ptr b o=>obtain⟨k,_,rfl⟩:=h;rfl
 case fp b o=>obtain⟨k,_,rfl⟩:=h;rfl
 case sl id=>obtain⟨k,_,rfl⟩:=h;rfl
 case ep id esz e off=>
  simp only[cz,SV.elem,thm4] at h
  obtain⟨k,_,a,_,rfl⟩:=h
  rfl
 case undef=>cases hs
 case clo=>obtain⟨x,y,_,_,rfl⟩:=fB h;rfl
 case mp id=>obtain⟨k,_,rfl⟩:=h;rfl
 case yld id=>obtain⟨k,_,rfl⟩:=h;rfl
 case wn id sz lo hi mx=>obtain⟨k,_,rfl⟩:=h;rfl
 case aw b o n sz lo hi mx=>obtain⟨k,_,rfl⟩:=h;rfl
 case pe b o n sz e off=>obtain⟨k,_,rfl⟩:=h;rfl
 case itp id mid=>obtain⟨_,_,_,_,_,rfl⟩:=aip (U:=U) h;rfl
 all_goals cases h;rfl
def dU (b:Nat):Nat->Nat->List (Nat×Nat)
 | _,0=>[]
 | o,n+1=>(b,o)::dU b (o+1) n
def eB (b:Nat):Nat->List C->List (Nat×Nat×C)
 | _,[]=>[]
 | o,c::cs=>(b,o,c)::eB b (o+1) cs
def ek:List C->List C->Option E
 | [],[]=>some (.tt true)
 | .int k a::l,.int k' b::r=>if bz k k' then(ek l r).map (jD (mkEq a b)) else none
 | .bool a::l,.bool b::r=>(ek l r).map (jD (adv a b))
 | _,_=>none
def aj0 (n:Nat) (cs:List C) (e:E):E:=match e with
 | .tt b=>.tt b
 | e=>if Nat.blt n cs.length then .beq e (.tt true) else e
theorem ajZ (U:Env) (n:Nat) (cs:List C) (e:E):(aj0 n cs e).B U=e.B U:=by
 unfold aj0
 split
 ·rfl
 ·split
  ·simp[E.B]
  ·rfl
def fO:List C->E
 | .int _ e::l=>.cons e (fO l)
 | .bool e::l=>.consb e (fO l)
 | _=>.nil
def ajY (n:Nat) (cs ds:List C) (e:E):E:=match e with
 | .tt b=>.tt b
 | e=>if Nat.blt 20 cs.length then .leq (.lq .ln (fO cs)) (.lq .ln (fO ds)) else aj0 n cs e
theorem amg (a b:Bool):(b2i a==b2i b)=(a==b):=by cases a<;>cases b<;>rfl
theorem jL {U:Env}:∀{cs ds:List C} {e:E},ek cs ds=some e->((fO cs).L U==(fO ds).L U)=e.B U
 | [],[],e,h=>by cases h;rfl
 | .int k a::l,.int k' b::r,e,h=>by
   simp only[ek] at h
   split at h
   ·rw[thm4] at h
    obtain⟨e',he,rfl⟩:=h
    have:=jL (U:=U) he
    simp only[fO,E.L,eC,o4,<-this]
    rfl
   ·cases h
 | .bool a::l,.bool b::r,e,h=>by
   simp only[ek,thm4] at h
   obtain⟨e',he,rfl⟩:=h
   have:=jL (U:=U) he
   simp only[fO,E.L,eC,qG,<-this,<-amg]
   rfl
theorem ajX (U:Env) (n:Nat) {cs ds:List C} {e:E} (h:ek cs ds=some e):(ajY n cs ds e).B U=e.B U:=by
 unfold ajY
 split
 ·rfl
 ·split
  ·have:=jL (U:=U) h
   rw[<-this]
   simp only[E.B,E.R,List.nil_append]
   exact Bool.and_true _
  ·exact ajZ U n cs e
def qT (n:Nat) (cs ds:List C):Option E:=(ek cs ds).map (ajY n cs ds)
def afB:List Value->List Value->Prop
 | [],[]=>True
 | .int k _::l,.int k' _::r=>k=k'/\afB l r
 | .bool _::l,.bool _::r=>afB l r
 | _,_=>False
def eqVs:List Value->List Value->Bool
 | .int _ a::l,.int _ b::r=>(a==b)&&eqVs l r
 | .bool a::l,.bool b::r=>(a==b)&&eqVs l r
 | _,_=>true
def eM:List C->List C->Bool
 | [],[]=>true
 | .int k _::l,.int k' _::r=>bz k k'&&eM l r
 | .bool _::l,.bool _::r=>eM l r
 | _,_=>false
def aC:List Value->List C->Prop
 | [],[]=>True
 | .int k x::l,.int k' _::r=>k=k'/\inK k x=true/\aC l r
 | .bool _::l,.bool _::r=>aC l r
 | _,_=>False
def C.rng (vk:List VK):C->Bool
 | .int k e=>e.rng vk k
 | _=>true
def acW (vk:List VK):List C->Rm->Bool
 | [],_=>true
 | .int k e::cs,m=>match e.rngW vk k m with
   | some m'=>acW vk cs m'
   | none=>false
 | _::cs,m=>acW vk cs m
def rngs (vk:List VK) (cs:List C) (_:List VK) (_:Nat):Bool:=acW vk cs (Rm.ini vk)
theorem agb {vk:List VK}:∀(cs:List C) (m:Rm),m.ok vk->acW vk cs m=true->cs.all (C.rng vk)=true:=by
 intro cs
 induction cs with
 | nil=>intros;rfl
 | cons c cs ih=>
   intro m hm h
   rw[List.all_cons,thm0]
   cases c with
   | int k e=>
     simp only[acW] at h
     split at h
     ·rename_i m' hw
      obtain⟨h1,h2⟩:=uI hm hw
      exact⟨h1,ih m' h2 h⟩
     ·cases h
   | _=>exact⟨rfl,ih m hm h⟩
theorem rngs_ok {vk:List VK} (cs:List C) (q:List VK) (n:Nat) (_:q=vk.drop n) (h:rngs vk cs q n=true):cs.all (C.rng vk)=true:=agb cs _ (Rm.ini_ok vk) h
theorem kC {U:Env} {j:J} {vk:List VK} (hv:Vk U vk):∀{cs zs:List C} {vs:List Value},eM cs zs=true->cs.all (C.rng vk)=true->denL U j cs=some vs->aC vs zs
 | [],[],vs,_,_,h=>by cases h;trivial
 | .int k a::l,.int k' b::r,vs,hk,hr,h=>by
   simp only[eM,thm0] at hk
   simp only[List.all_cons,thm0] at hr
   simp only[denL,C.den] at h
   cases hl:denL U j l with
   | none=>rw[hl] at h;cases h
   | some us=>rw[hl] at h;cases h;exact⟨aD hk.1,E.rng_ok hv a hr.1,kC hv hk.2 hr.2 hl⟩
 | .bool a::l,.bool b::r,vs,hk,hr,h=>by
   simp only[eM] at hk
   simp only[List.all_cons,thm0] at hr
   simp only[denL,C.den] at h
   cases hl:denL U j l with
   | none=>rw[hl] at h;cases h
   | some us=>rw[hl] at h;cases h;exact kC (cs:=l) (zs:=r) hv hk hr.2 hl
theorem ae {vs:List Value} {k:IntKind} {e:E} {r:List C} (h:aC vs (.int k e::r)):∃x l,vs=.int k x::l/\inK k x=true/\aC l r:=by
 match vs,h with
 | .int k' x::l,h=>exact⟨x,l,by rw[h.1],by rw[<-h.1];exact h.2.1,h.2.2⟩
theorem dw {vs:List Value} {e:E} {r:List C} (h:aC vs (.bool e::r)):∃x l,vs=.bool x::l/\aC l r:=by
 match vs,h with
 | .bool x::l,h=>exact⟨x,l,rfl,h⟩
theorem bD {vs:List Value} (h:aC vs []):vs=[]:=by
 cases vs with
 | nil=>rfl
 | cons v l=>cases v<;>exact h.elim
theorem jG {U:Env} {j:J}:∀{cs ds:List C} {e:E},ek cs ds=some e->∃vs us,denL U j cs=some vs/\denL U j ds=some us/\afB vs us/\eqVs vs us=e.B U
 | [],[],e,h=>by cases h;exact⟨[],[],rfl,rfl,trivial,rfl⟩
 | .int k a::l,.int k' b::r,e,h=>by
   simp only[ek] at h
   split at h
   ·rename_i hk
    rw[thm4] at h
    obtain⟨e',he,rfl⟩:=h
    obtain⟨vs,us,h1,h2,h3,h4⟩:=jG (U:=U) (j:=j) he
    refine⟨.int k (a.I U)::vs,.int k' (b.I U)::us,by simp[denL,C.den,h1],by simp[denL,C.den,h2],⟨aD hk,h3⟩,?_⟩
    simp[eqVs,h4,eC,o4]
   ·cases h
 | .bool a::l,.bool b::r,e,h=>by
   simp only[ek,thm4] at h
   obtain⟨e',he,rfl⟩:=h
   obtain⟨vs,us,h1,h2,h3,h4⟩:=jG (U:=U) (j:=j) he
   refine⟨.bool (a.B U)::vs,.bool (b.B U)::us,by simp[denL,C.den,h1],by simp[denL,C.den,h2],h3,?_⟩
   simp[eqVs,h4,eC,qG]
theorem zg {U:Env} {j:J} {n:Nat} {cs ds:List C} {e:E} (h:qT n cs ds=some e):∃vs us,denL U j cs=some vs/\denL U j ds=some us/\afB vs us/\eqVs vs us=e.B U:=by
 unfold qT at h
 rw[thm4] at h
 obtain⟨e',he,rfl⟩:=h
 obtain⟨vs,us,h1,h2,h3,h4⟩:=jG (U:=U) (j:=j) he
 exact⟨vs,us,h1,h2,h3,by rw[ajX U n he];exact h4⟩
def jf:E->Nat->Option E
 | .lq a r,i=>match fW a with
   | .lit z=>if gU z i then some r else jf a i
   | _=>jf a i
 | .lcat a b,i=>match fW a with
   | .lit z=>if decide (z<=(i:Int)) then jf b (i-z.toNat) else jf a i
   | _=>jf a i
 | _,_=>none
def fX:E->Nat->Option E
 | .cons a _,0=>some a
 | .cons _ t,c+1=>fX t c
 | .consb _ t,c+1=>fX t c
 | _,_=>none
def jq:E->Nat->Option E
 | .consb b _,0=>some b
 | .cons _ t,c+1=>jq t c
 | .consb _ t,c+1=>jq t c
 | _,_=>none
def kz (l e:E):Option E:=match e with
 | .lit (.ofNat i)=>jf l i
 | _=>none
def adu (l e:E) (c:Nat):E:=match(kz l e).bind (fX · c) with
 | some x=>x
 | none=>.get l e c
def nD (l e:E) (c:Nat):E:=match(kz l e).bind (jq · c) with
 | some x=>x
 | none=>.getb l e c
theorem sG (U:Env):∀(l:E) (i:Nat) (r:E),jf l i=some r->(l.R U)[i]? =some (r.L U):=by
 intro l
 induction l<;>intro i r h<;>simp only[jf] at h<;>first | cases h | skip
 case lq a r0 ih _=>
  have left:jf a i=some r->((E.lq a r0).R U)[i]? =some (r.L U):=fun h=>by
   have h1:=ih i r h
   have hlt:=(cP.1 h1).1
   simp only[E.R]
   rw[thm8 hlt];exact h1
  split at h
  ·rename_i z hz
   split at h
   ·rename_i hzi
    cases h
    have h1:=ix U a
    rw[hz,eQ hzi] at h1
    simp only[E.I] at h1
    have h2:(a.R U).length=i:=by omega
    simp only[E.R]
    rw[thm9 (by omega),h2]
    simp
   ·exact left h
  ·exact left h
 case lcat a b iha ihb=>
  have left:jf a i=some r->((E.lcat a b).R U)[i]? =some (r.L U):=fun h=>by
   have h1:=iha i r h
   have hlt:=(cP.1 h1).1
   simp only[E.R]
   rw[thm8 hlt];exact h1
  split at h
  ·rename_i z hz
   split at h
   ·rename_i hzi
    have hzi:=thm3 hzi
    have h1:=ix U a
    rw[hz] at h1
    simp only[E.I] at h1
    have h2:=ihb _ r h
    simp only[E.R]
    rw[thm9 (by omega),show i-(a.R U).length=i-z.toNat by omega]
    exact h2
   ·exact left h
  ·exact left h
theorem zF (U:Env):∀(r:E) (c:Nat) (x:E),fX r c=some x->(r.L U).getD c 0=x.I U:=by
 intro r
 induction r<;>intro c x h<;>cases c<;>simp only[fX] at h<;>first | cases h | skip
 ·rfl
 ·rename_i iht c;simpa[E.L] using iht c x h
 ·rename_i iht c;simpa[E.L] using iht c x h
theorem aeD (U:Env):∀(r:E) (c:Nat) (x:E),jq r c=some x->(r.L U).getD c 0=b2i (x.B U):=by
 intro r
 induction r<;>intro c x h<;>cases c<;>simp only[jq] at h<;>first | cases h | skip
 ·rename_i iht c;simpa[E.L] using iht c x h
 ·rfl
 ·rename_i iht c;simpa[E.L] using iht c x h
theorem sX {U:Env} {l e r:E} (h:kz l e=some r) (c:Nat):gt (l.R U) (e.I U) c=(r.L U).getD c 0:=by
 unfold kz at h
 split at h
 ·rename_i i
  have h1:=sG U l i r h
  show((l.R U).getD i []).getD c 0=_
  rw[show(l.R U).getD i []=r.L U by rw[eb,h1];rfl]
 ·cases h
theorem adt (U:Env) (l e:E) (c:Nat):(adu l e c).I U=gt (l.R U) (e.I U) c:=by
 unfold adu
 split
 ·rename_i x hx
  rw[cz] at hx
  obtain⟨r,h1,h2⟩:=hx
  rw[sX h1,zF U r c x h2]
 ·rfl
theorem qF (U:Env) (l e:E) (c:Nat):(nD l e c).B U=(gt (l.R U) (e.I U) c==1):=by
 unfold nD
 split
 ·rename_i x hx
  rw[cz] at hx
  obtain⟨r,h1,h2⟩:=hx
  rw[sX h1,aeD U r c x h2]
  cases x.B U<;>rfl
 ·rfl
def rowC (l e:E) (c:Nat):CE->C
 | some k=>.int k (adu l e c)
 | none=>.bool (nD l e c)
def iZ (l e:E):Nat->List CE->List C
 | _,[]=>[]
 | c,k::ks=>rowC l e c k::iZ l e (c+1) ks
def zl:Nat->E->Option E
 | 0,t=>some t
 | c+1,.cons _ t=>zl c t
 | c+1,.consb _ t=>zl c t
 | _,_=>none
def pn:List CE->E->Option (List C)
 | [],_=>some []
 | some k::ks,.cons a t=>(pn ks t).map (.int k a::·)
 | none::ks,.consb a t=>(pn ks t).map (.bool a::·)
 | _,_=>none
def wS (l e:E) (c:Nat) (ks:List CE):List C:=match((kz l e).bind (zl c)).bind (pn ks) with
 | some cs=>cs
 | none=>iZ l e c ks
theorem jH:∀{c:Nat} {row t:E},zl c row=some t->(∀m,fX row (c+m)=fX t m)/\∀m,jq row (c+m)=jq t m
 | 0,row,t,h=>by cases h;exact⟨fun m=>by rw[bG],fun m=>by rw[bG]⟩
 | c+1,.cons _ u,t,h=>by
   obtain⟨h1,h2⟩:=jH (c:=c) (row:=u) h
   exact⟨fun m=>by rw[show c+1+m=(c+m)+1 by omega];exact h1 m,fun m=>by rw[show c+1+m=(c+m)+1 by omega];exact h2 m⟩
 | c+1,.consb _ u,t,h=>by
   obtain⟨h1,h2⟩:=jH (c:=c) (row:=u) h
   exact⟨fun m=>by rw[show c+1+m=(c+m)+1 by omega];exact h1 m,fun m=>by rw[show c+1+m=(c+m)+1 by omega];exact h2 m⟩
theorem om {l e row:E} (hl:kz l e=some row):∀(ks:List CE) (c:Nat) (t:E) (cs:List C),(∀m,fX row (c+m)=fX t m)->(∀m,jq row (c+m)=jq t m)->pn ks t=some cs->cs=iZ l e c ks
 | [],c,t,cs,_,_,h=>by cases h;rfl
 | some k::ks,c,t,cs,h1,h2,h=>by
   cases t<;>simp only[pn] at h<;>first | cases h | skip
   rename_i a t
   rw[thm4] at h
   obtain⟨cs',h3,rfl⟩:=h
   have:=om hl ks (c+1) t cs' (fun m=>by rw[show c+1+m=c+(m+1) by omega,h1];rfl) (fun m=>by rw[show c+1+m=c+(m+1) by omega,h2];rfl) h3
   have h0:fX row c=some a:=h1 0
   simp only[iZ,rowC,adu,hl,Option.bind_some,h0,this]
 | none::ks,c,t,cs,h1,h2,h=>by
   cases t<;>simp only[pn] at h<;>first | cases h | skip
   rename_i a t
   rw[thm4] at h
   obtain⟨cs',h3,rfl⟩:=h
   have:=om hl ks (c+1) t cs' (fun m=>by rw[show c+1+m=c+(m+1) by omega,h1];rfl) (fun m=>by rw[show c+1+m=c+(m+1) by omega,h2];rfl) h3
   have h0:jq row c=some a:=h2 0
   simp only[iZ,rowC,nD,hl,Option.bind_some,h0,this]
theorem acU (l e:E) (c:Nat) (ks:List CE):wS l e c ks=iZ l e c ks:=by
 unfold wS
 split
 ·rename_i cs h
  simp only[cz] at h
  obtain⟨t,⟨row,h1,h2⟩,h3⟩:=h
  obtain⟨h4,h5⟩:=jH h2
  exact om h1 ks c t cs h4 h5 h3
 ·rfl
def fq (vk:List VK) (l e:E):Nat->List CE->List C->Option E
 | _,_,[]=>some l
 | c,some k::ks,.int k' x::cs=>if bz k' k&&x.rng vk k then fq vk (.lset l e c x) e (c+1) ks cs else none
 | c,none::ks,.bool x::cs=>fq vk (.lsetb l e c x) e (c+1) ks cs
 | _,_,_=>none
def yO:List CE->List C->Option E
 | [],[]=>some .nil
 | some k::ks,.int k' x::cs=>if bz k' k then(yO ks cs).map (.cons x) else none
 | none::ks,.bool x::cs=>(yO ks cs).map (.consb x)
 | _,_=>none
def rowE (vk:List VK) (ks:List CE) (cs:List C):Option E:=bif rngs vk cs vk 0 then yO ks cs else none
def agZ (r l:E):E:=match l with
 | .ln=>.lq .ln r
 | l=>.lcat (.lq .ln r) l
theorem aev (U:Env) (r l:E):(agZ r l).R U=r.L U::l.R U:=by unfold agZ;split<;>simp[E.R]
def yN (vk:List VK) (ks:List CE):Nat->List C->Option E
 | 0,[]=>some .ln
 | n+1,cs=>match rowE vk ks (cs.take ks.length),yN vk ks n (cs.drop ks.length) with
   | some r,some l=>some (agZ r l)
   | _,_=>none
 | 0,_::_=>none
def ksOf:List C->Option (List CE)
 | []=>some []
 | .int k _::cs=>(ksOf cs).map (some k::·)
 | .bool _::cs=>(ksOf cs).map (none::·)
 | _=>none
def iG:CE->Int->Value
 | some k,x=>.int k x
 | none,x=>.bool (x==1)
def rowV:List CE->List Int->List Value
 | k::ks,x::xs=>iG k x::rowV ks xs
 | _,_=>[]
def flat (ks:List CE) (L:List (List Int)):List Value:=L.flatMap (rowV ks)
def RdRow (w:World) (esz:Nat) (s:SV) (xs:List Value):Prop:=
 xs.length=s.n*esz/\s.n<=s.c/\s.c<=maxLen/\(s.a=none->s.n=0/\s.c=0)/\∀a,s.a=some a->∀i u,xs[i]? =some u->w.cell? (a.add i)=some u
def SV.blk (s:SV) (o:Bool):Option Nat:=if(o ||!Nat.beq s.c 0)=true then s.v.ownBlock else none
theorem aT {s:SV} {o:Bool} {k:Nat} (h:s.blk o=some k):s.v.ownBlock=some k:=by
 unfold SV.blk at h
 split at h
 ·exact h
 ·cases h
theorem kM {s:SV} {o:Bool} {k:Nat} (ho:o=true) (h:s.v.ownBlock=some k):s.blk o=some k:=by rw[ho];exact h
theorem bP {s:SV} {o:Bool} {k:Nat} (h:s.blk false=some k):s.blk o=some k:=by
 cases o with
 | false=>exact h
 | true=>exact aT h
theorem tN {s:SV} {k:Nat} (hc:s.c≠0) (h:s.v.ownBlock=some k):s.blk false=some k:=by
 unfold SV.blk
 have:Nat.beq s.c 0=false:=by cases hb:Nat.beq s.c 0 with
  | false=>rfl
  | true=>exact absurd (thm1 hb) hc
 simpa[this] using h
def gV (vk:List VK) (rw:Nat->Option RowOb) (ks:List CE) (ty:Nat):C->Option E
 | .sl id=>match rw id with
   | some r=>if cO r.ks ks&&(Nat.beq r.ty ty&&r.l.lok vk ks) then some r.l else none
   | none=>none
 | .nsl=>some .ln
 | _=>none
def uL:List CE->List Int->E
 | some _::ks,x::xs=>.cons (.lit x) (uL ks xs)
 | none::ks,x::xs=>.consb (.tt (gU x 1)) (uL ks xs)
 | _,_=>.nil
def rlE (ks:List CE):E->List (List Int)->E
 | e,[]=>e
 | e,r::l=>rlE ks (.lq e (uL ks r)) l
def rcE (ks:List CE):List (List Int)->E
 | []=>.ln
 | r::l=>agZ (uL ks r) (rcE ks l)
def rlOk (ks:List CE) (L:List (List Int)):Bool:=L.all (aF ks)&&(decide (L.length<=maxLen)&&(decide (0<ks.length) &&!cO ks evKs))
theorem wR {U:Env}:∀{ks:List CE} {xs:List Int},aF ks xs=true->(uL ks xs).L U=xs
 | [],[],_=>rfl
 | some k::ks,x::xs,h=>by
   simp only[aF,thm0] at h
   simp only[uL,E.L,E.I,wR h.2]
 | none::ks,x::xs,h=>by
   simp only[aF,thm0,inCE,ey,aZ] at h
   simp only[uL,E.L,E.B,wR h.2]
   rcases h.1 with rfl | rfl<;>rfl
theorem amO {U:Env} {ks:List CE}:∀{L:List (List Int)} {e:E},L.all (aF ks)=true->(rlE ks e L).R U=e.R U++L
 | [],e,_=>by simp[rlE]
 | r::l,e,h=>by
   simp only[List.all_cons,thm0] at h
   rw[rlE,amO h.2]
   simp only[E.R,wR h.1,List.append_assoc,List.singleton_append]
theorem amQ {U:Env} {ks:List CE}:∀{L:List (List Int)},L.all (aF ks)=true->(rcE ks L).R U=L
 | [],_=>rfl
 | r::l,h=>by
   simp only[List.all_cons,thm0] at h
   rw[rcE,aev,amQ h.2,wR h.1]
theorem uM {U:Env} {ks:List CE} {L:List (List Int)} (h:rlOk ks L=true):(rlE ks .ln L).R U=L/\RowsIn ks L/\0<ks.length/\kdOf ks=.sl:=by
 simp only[rlOk,thm0,ba,Bool.not_eq_true'] at h
 refine⟨by rw[amO h.1];rfl,⟨fun r hr=>thm7.1 h.1 r hr,h.2.1⟩,h.2.2.1,?_⟩
 rcases cj ks with⟨h1,_⟩ | ⟨_,h1⟩
 ·rw[h1] at h;exact absurd h.2.2.2 (by decide)
 ·exact h1
def encC (vk:List VK) (rw:Nat->Option RowOb):CK->C->E->Option E
 | .int k,.int k' e,t=>if bz k k'&&e.rng vk k then some (.cons e t) else none
 | .bool,.bool e,t=>some (.consb e t)
 | .fn g,.fn g',t=>if Nat.beq g g' then some t else none
 | .lit k z,.int k' (.lit z'),t=>if bz k k'&&gU z z' then some t else none
 | .sl ks ty,c,t=>(gV vk rw ks ty c).map fun l=>.cL l t
 | .nf,.nf,t=>some t
 | .any,_,t=>some t
 | .rl ks ty L,.sl id,t=>match rw id with
   | some r=>if(cO r.ks ks&&Nat.beq r.ty ty)&&((r.l.same (rlE ks .ln L)||r.l.same (rcE ks L))&&rlOk ks L) then some t else none
   | none=>none
 | _,_,_=>none
def tG (vk:List VK) (rw:Nat->Option RowOb):List CK->List C->E->Option E
 | [],[],t=>some t
 | k::ks,c::cs,t=>(tG vk rw ks cs t).bind (encC vk rw k c)
 | _,_,_=>none
def al6 (vk:List VK) (rw:Nat->Option RowOb):CK->C->E->Option E
 | .int k,.int k' e,t=>if bz k k' then some (.cons e t) else none
 | .bool,.bool e,t=>some (.consb e t)
 | .fn g,.fn g',t=>if Nat.beq g g' then some t else none
 | .lit k z,.int k' (.lit z'),t=>if bz k k'&&gU z z' then some t else none
 | .sl ks ty,c,t=>(gV vk rw ks ty c).map fun l=>.cL l t
 | .nf,.nf,t=>some t
 | .any,_,t=>some t
 | .rl ks ty L,.sl id,t=>match rw id with
   | some r=>if(cO r.ks ks&&Nat.beq r.ty ty)&&((r.l.same (rlE ks .ln L)||r.l.same (rcE ks L))&&rlOk ks L) then some t else none
   | none=>none
 | _,_,_=>none
theorem agV {vk:List VK} {rw:Nat->Option RowOb} {k:CK} {c:C} {t e:E} (hc:c.rng vk=true) (h:al6 vk rw k c t=some e):encC vk rw k c t=some e:=by
 unfold al6 at h
 split at h
 ·rename_i k1 k2 x
  split at h
  ·rename_i h1
   obtain rfl:=aD h1
   have h2:x.rng vk k1=true:=hc
   simp[encC,h1,h2];exact Option.some.inj h
  ·cases h
 all_goals first | exact h | cases h
def agU (vk:List VK) (rw:Nat->Option RowOb):List CK->List C->E->Option E
 | [],[],t=>some t
 | k::ks,c::cs,t=>(agU vk rw ks cs t).bind (al6 vk rw k c)
 | _,_,_=>none
theorem ya {vk:List VK} {rw:Nat->Option RowOb}:∀{ks:List CK} {cs:List C} {t e:E},cs.all (C.rng vk)=true->agU vk rw ks cs t=some e->tG vk rw ks cs t=some e
 | [],[],_,_,_,h=>h
 | k::ks,c::cs,t,e,hr,h=>by
   simp only[List.all_cons,thm0] at hr
   simp only[agU,cz] at h
   obtain⟨e1,h1,h2⟩:=h
   simp only[tG,cz]
   exact⟨e1,ya hr.2 h1,agV hr.1 h2⟩
def encL (vk:List VK) (rw:Nat->Option RowOb) (ks:List CK) (cs:List C) (t:E):Option E:=bif rngs vk cs vk 0 then agU vk rw ks cs t else none
theorem tF {vk:List VK} {rw:Nat->Option RowOb} {ks:List CK} {cs:List C} {t e:E} (h:encL vk rw ks cs t=some e):tG vk rw ks cs t=some e:=by
 unfold encL at h
 cases hr:rngs vk cs vk 0 with
 | false=>rw[hr] at h;cases h
 | true=>rw[hr] at h;exact ya (rngs_ok cs vk 0 rfl hr) h
def elE (vk:List VK) (vw:Vw) (ks:List CE) (id z:Nat) (e t:E):Option E:=match vw.sw id with
 | some r=>if cO r.ks ks&&Nat.beq z ks.length then(rowE vk ks (iZ r.l e 0 ks)).map fun x=>.cL (.lq .ln x) t else none
 | none=>none
def encV (vk:List VK) (vw:Vw):Sh->V->E->Option E
 | .agg ks,.agg cs,t=>encL vk vw.tw ks cs t
 | .one (.el ks _),.one (.ep id z e 0),t=>elE vk vw ks id z e t
 | .one k,.one c,t=>encC vk vw.tw k c t
 | .ptr ks,.one (.ptr b 0),t=>if 0<ks.length then(vw.row b 0 ks.length).bind fun cs=>encL vk vw.tw ks cs t else none
 | .ptr ks,.one (.fp b 0),t=>(vw.fb b).bind fun cs=>if cs.all C.solid then encL vk vw.tw ks cs t else none
 | _,_,_=>none
def encA (vk:List VK) (vw:Vw):List Sh->List V->Option E
 | [],[]=>some .nil
 | s::ss,v::vs=>(encA vk vw ss vs).bind (encV vk vw s v)
 | _,_=>none
def fk:List C->List Nat
 | []=>[]
 | .sl id::cs=>id::fk cs
 | .ep id _ _ _::cs=>id::fk cs
 | _::cs=>fk cs
def gu (vw:Vw):List Sh->List V->List Nat
 | .ptr ks::ss,.one (.ptr b 0)::vs=>(match vw.row b 0 ks.length with | some cs=>fk cs | none=>[])++gu vw ss vs
 | .ptr _::ss,.one (.fp b 0)::vs=>(match vw.fb b with | some cs=>fk cs | none=>[])++gu vw ss vs
 | _::ss,v::vs=>fk v.cells++gu vw ss vs
 | _,_=>[]
def rj:List Sh->List V->List (Nat×Nat)
 | .ptr ks::ss,.one (.ptr b 0)::vs=>dU b 0 ks.length++rj ss vs
 | _::ss,_::vs=>rj ss vs
 | _,_=>[]
def aiC (row:List Int):List Value:=((row.drop 3).take (row.getD 2 0).toNat).map fun x=>.int .u64 x
def al1 (row:List Int) (x:SV):List Value:=[.int .i64 (row.getD 0 0),x.v,.int .u64 (row.getD 1 0)]
def tB:List (List Int)->List SV->List Value
 | r::L,x::xs=>al1 r x++tB L xs
 | _,_=>[]
def isCl:Obj->Bool
 | .cells _ _ _=>true
 | _=>false
structure EvIn (w:World) (row:List Int) (x:SV):Prop where
 n:(x.n:Int)=row.getD 2 0
 most:x.n<=5
 rest:(row.drop 3).drop x.n=List.replicate (5-x.n) 0
 rd:RdRow w 1 x (aiC row)
 blk:∀k,x.blk false=some k->∃o,w.heap[k]? =some o/\isCl o=true
def TRow (w:World) (ks:List CE) (s:SV) (L:List (List Int)):Prop:=
 match kdOf ks with
 | .ev=>∃ins:List SV,ins.length=L.length/\RdRow w 3 s (tB L ins)/\∀(i:Nat) row x,L[i]? =some row->ins[i]? =some x->EvIn w row x
 | _=>RdRow w ks.length s (flat ks L)
def tK (w:World) (k:CK) (xs:List Dt) (v:Value) (r:List Dt):Prop:=
 match k with
 | .int k=>∃x,xs=.z x::r/\v=.int k x/\inK k x=true
 | .bool=>∃b,xs=.z (b2i b)::r/\v=.bool b
 | .fn g=>xs=r/\v=.func (.func g) #[] #[]
 | .lit k z=>xs=r/\v=.int k z
 | .sl ks _=>∃L s,xs=.l L::r/\v=s.v/\s.n=L.length/\TRow w ks s L/\RowsIn ks L/\∀k,s.blk false=some k->k<w.heap.size
 | .nf=>xs=r/\v=.nilFunc
 | .any=>xs=r
 | .el ks _=>∃row p,xs=.l [row]::r/\v=.pointer (some p)/\aF ks row=true/\p.block<w.heap.size/\∀(c:Nat) u,(flat ks [row])[c]? =some u->w.cell? (p.add c)=some u
 | .rl ks _ L=>xs=r/\rlOk ks L=true/\∃s,v=s.v/\s.n=L.length/\TRow w ks s L/\∀k,s.blk false=some k->k<w.heap.size
def eO (w:World):List CK->List Dt->List Value->List Dt->Prop
 | [],xs,vs,r=>xs=r/\vs=[]
 | k::ks,xs,vs,r=>∃v us r',vs=v::us/\tK w k xs v r'/\eO w ks r' us r
def kV (w:World):List Sh->List Dt->List Value->Prop
 | [],xs,vals=>xs=[]/\vals=[]
 | .one c::ss,xs,vals=>∃v vs r,vals=v::vs/\tK w c xs v r/\kV w ss r vs
 | .agg cs::ss,xs,vals=>∃us vs r,vals=.agg us.toArray::vs/\eO w cs xs us r/\kV w ss r vs
 | .ptr cs::ss,xs,vals=>∃kk us vs r,vals=.pointer (some ⟨kk,0,none⟩)::vs/\eO w cs xs us r/\kk<w.heap.size/\(∀o u,us[o]? =some u->w.cell? ⟨kk,o,none⟩=some u)/\kV w ss r vs
def ckIn:CK->List Dt->List Dt->Prop
 | .int k,xs,r=>∃x,xs=.z x::r/\inK k x=true
 | .bool,xs,r=>∃b,xs=.z (b2i b)::r
 | .sl ks _,xs,r=>∃L,xs=.l L::r/\∀x∈L,aF ks x=true
 | .rl ks _ L,xs,r=>xs=r/\rlOk ks L=true
 | .el ks _,xs,r=>∃row,xs=.l [row]::r/\aF ks row=true
 | _,xs,r=>xs=r
def zm:List CK->List Dt->List Dt->Prop
 | [],xs,r=>xs=r
 | k::ks,xs,r=>∃r',ckIn k xs r'/\zm ks r' r
def aeQ:List Sh->List Dt->Prop
 | [],xs=>xs=[]
 | s::ss,xs=>∃r,zm s.cks xs r/\aeQ ss r
structure OwnRow (w:World) (base:Nat) (ty:Nat) (ks:List CE) (s:SV) (L:List (List Int)):Prop where
 n:s.n=L.length
 own:w.ownsRow base ty ks.length s.v s.n (flat ks L)
 rows:RowsIn ks L
 pos:0<ks.length
def aG (v0:Nat):Nat->Nat->List CK->List C
 | _,_,[]=>[]
 | n,id,.int k::ks=>.int k (.var (v0+n))::aG v0 (n+1) id ks
 | n,id,.bool::ks=>.bool (.bw (v0+n))::aG v0 (n+1) id ks
 | n,id,.fn g::ks=>.fn g::aG v0 (n+1) id ks
 | n,id,.lit _ _::ks=>.undef::aG v0 (n+1) id ks
 | n,id,.sl _ _::ks=>.sl id::aG v0 (n+1) (id+1) ks
 | n,id,.nf::ks=>.nf::aG v0 (n+1) id ks
 | n,id,.any::ks=>.undef::aG v0 (n+1) id ks
 | n,id,.rl _ _ _::ks=>.undef::aG v0 (n+1) id ks
 | n,id,.el _ _::ks=>.undef::aG v0 (n+1) id ks
def CK.isSl:CK->Bool
 | .sl _ _=>true
 | _=>false
def bl (v0:Nat):Nat->Nat->List Sh->List (Bool×List C)
 | _,_,[]=>[]
 | n,id,.one k::l=>(false,aG v0 n id [k])::bl v0 (n+1) (if k.isSl then id+1 else id) l
 | n,id,.agg ks::l=>(true,aG v0 n id ks)::bl v0 (n+ks.length) (id+(ks.filter CK.isSl).length) l
 | n,id,.ptr ks::l=>(true,[.undef])::bl v0 (n+ks.length) id l
def eK (res:List Sh) (tup:Bool) (v0 nid:Nat):V:=
 if tup then .tup (bl v0 0 nid res) else
 match bl v0 0 nid res with
 | [(true,cs)]=>.agg cs
 | [(false,[c])]=>.one c
 | _=>.one .undef
def resV (s:Sm) (v0 nid:Nat):V:=eK s.res s.tup v0 nid
def bi (v0:Nat):Nat->List CK->List RowOb
 | _,[]=>[]
 | n,.sl ks ty::l=>⟨ks,ty,.lw (v0+n),true,kdOf ks⟩::bi v0 (n+1) l
 | n,_::l=>bi v0 (n+1) l
section
variable {U:Env} {j:J} {vk:List VK}
end
def fu:List CK->List Dt->Prop
 | [],_=>True
 | .int k::ks,.z x::ds=>inK k x=true/\fu ks ds
 | .int _::_,_=>False
 | .sl ks0 _::ks,.l L::ds=>RowsIn ks0 L/\fu ks ds
 | .sl _ _::_,_=>False
 | _::ks,_::ds=>fu ks ds
 | _::_,[]=>False
structure TIok (P:Program) (t:Nat) (i:TI):Prop where
 agg:∀w,(isAgg t).run P w=.ok i.agg w
 size:∀w,(sizeOf t).run P w=.ok i.size w
 zero:∃z,(∀w,(zeroValue t).run P w=.ok z w)/\∀(U:Env) j,denL U j i.zero=some z.cells.toList
 fieldAt:∀f off ft,i.fields[f]? =some (off,ft)->∀w (a:Addr),(Instr.fieldAt t (.pointer (some a)) f).run P w=.ok (.pointer (some (a.add off))) w
 field:∀f off ft,i.fields[f]? =some (off,ft)->∀w cs,(Instr.field t (.agg cs) f).run P w=(part ft cs off).run P w
 arr:∀n e,i.arr=some (n,e)->P.underlying t=some (.array n e)
 str:i.agg=true->i.arr=none->∃fs,P.underlying t=some (.struct fs)/\fs.toList.map (fun f=>(f.offset,f.type))=i.fields
 ik:∀k,i.ik=some k->P.underlying t=some (.int k)
 und:∃d,P.underlying t=some d
 eq:i.eqok=true->∀vs us,aC vs i.zero->aC us i.zero->∀w,(Op.equal t (.agg vs.toArray) (.agg us.toArray)).run P w=.ok (eqVs vs us) w
 grd:i.eqok=true->P.eqGuardType P.depth t=false
 isb:i.isb=true->P.underlying t=some .bool
 sle:∀e,i.sle=some e->P.underlying t=some (.slice e)
 fnt:i.fnt=true->∀f a b w,(Op.equal t (.func (.func f) a b) .nilFunc).run P w=.ok false w/\(Op.equal t .nilFunc .nilFunc).run P w=.ok true w
 mapt:∀k e,i.mapt=some (k,e)->P.underlying t=some (.map k e)
 ptr:i.kd=1->∃e,P.underlying t=some (.pointer e)
 stg:i.kd=2->P.underlying t=some .string
 key:i.keyok=true->∀vs,aC vs i.zero->∀b w,(Instr.checkKey b 10000 t (.agg vs.toArray)).run P w=.ok () w
 zsh:∀z,(∀w,(zeroValue t).run P w=.ok z w)->(i.agg=true->z=.agg z.cells)/\(i.agg=false->z.cells = #[z])
 info:∃inf z,P.info? t=some inf/\inf.size=i.size/\inf.bytes=i.bytes/\inf.zero=some z/\z.cells.toList.length=i.size/\∀(U:Env) j,denL U j i.zero=some z.cells.toList
def nV (vk:List VK) (vw:Vw) (f:Nat) (args:List V):List Sm->Option (Sm×E)
 | []=>none
 | s::l=>if Nat.beq s.f f then(match encA vk vw s.args args with | some e=>some (s,e) | none=>nV vk vw f args l) else nV vk vw f args l
theorem nU {vk:List VK} {vw:Vw} {f:Nat} {args:List V} {s:Sm} {e:E}:∀{l:List Sm},nV vk vw f args l=some (s,e)->s∈l/\s.f=f/\encA vk vw s.args args=some e
 | x::l,h=>by
   simp only[nV] at h
   split at h
   ·rename_i hf
    split at h
    ·rename_i e' he
     cases h
     exact⟨cd,thm1 hf,he⟩
    ·have:=nU h
     exact⟨dk _ this.1,this.2⟩
   ·have:=nU h
    exact⟨dk _ this.1,this.2⟩
def qR (key:Nat) (e:E):List (Nat×E×Nat)->Option Nat
 | []=>none
 | (m,x,v0)::l=>if Nat.beq m key&&x.same e then some v0 else qR key e l
theorem ph {key:Nat} {e:E} {v0:Nat}:∀{l:List (Nat×E×Nat)},qR key e l=some v0->(key,e,v0)∈l
 | (m,x,u)::l,h=>by
   simp only[qR] at h
   split at h
   ·rename_i hm
    simp only[thm0] at hm
    cases h
    rw[thm1 hm.1,E.same_eq hm.2]
    exact cd
   ·exact dk _ (ph h)
def tL:CK->VK
 | .int k=>.int k
 | .sl ks _=>.list ks
 | _=>.bool
def evL (ev:Operand->Option V):List Operand->Option (List V)
 | []=>some []
 | x::l=>match ev x,evL ev l with
   | some v,some vs=>some (v::vs)
   | _,_=>none
def capE (ev:Operand->Option V):List Operand->Option (List (Option (Bool×Nat×Nat)))
 | []=>some []
 | x::l=>match ev x,capE ev l with
   | some (.one (.ptr b o)),some vs=>some (some (true,b,o)::vs)
   | some (.one (.fp b o)),some vs=>some (some (false,b,o)::vs)
   | some (.one .np),some vs=>some (none::vs)
   | _,_=>none
def yg (cx:Cx) (vw:Vw) (g:Nat) (args:List V) (kw:Kw) (k:Eff->Kw->Tr):Tr:=
 match nV kw.vk vw g args cx.sm with
 | none=>.stuck (100000+g)
 | some (s,e)=>match s.inp with
   | some (ks,ty)=>match args with
     | [.one (.sl id)]=>match vw.sw id with
       | some r=>if r.own&&(cO r.ks ks&&Nat.beq r.ty ty) then
        .call s.key [.sl ks ty] (.cL r.l .nil) kw.vk.length (k {val:=.tup [],rr:=[id],re:=.set id {r with l:=.lw kw.vk.length}} {kw with vk:=kw.vk++[.list ks]})
         else .stuck 170
       | none=>.stuck 171
     | _=>.stuck 172
   | none=>match qR s.key e kw.log with
   | some v0=>k {val:=resV s v0 vw.nid,rd:=rj s.args args,rr:=gu vw s.args args,re:=.mk (bi v0 0 s.ks)} kw
   | none=>.call s.key s.ks e kw.vk.length (k {val:=resV s kw.vk.length vw.nid,rd:=rj s.args args,rr:=gu vw s.args args,re:=.mk (bi kw.vk.length 0 s.ks)} {kw with log:=(s.key,e,kw.vk.length)::kw.log,vk:=kw.vk++s.ks.map tL})
def vC:E->List Nat
 | .cons (.lit (.ofNat n)) t=>n::vC t
 | .consb (.tt b) t=>(if b then 1 else 0)::vC t
 | _=>[]
def xr:List Nat->List Nat->Bool
 | [],[]=>true
 | a::l,b::r=>Nat.beq a b&&xr l r
 | _,_=>false
def amS:List Pl->List Nat->Option (List Nat)
 | .only a::.only r::l,xs=>if xr a xs then some r else amS l xs
 | _,_=>none
def pinC:C->Nat->C×E
 | .int k e,n=>(.int k (.lit (.ofNat n)),.eq e (.lit (.ofNat n)))
 | .bool e,n=>(.bool (.tt (Nat.beq n 1)),.beq e (.tt (Nat.beq n 1)))
 | c,_=>(c,.tt true)
def lb:List C->List Nat->E->List C×E×List Nat
 | c::cs,n::ns,e=>let p:=pinC c n;let r:=lb cs ns (jD p.2 e);(p.1::r.1,r.2)
 | cs,ns,e=>(cs,e,ns)
def pinT:List (Bool×List C)->List Nat->E->List (Bool×List C)×E
 | [],_,e=>([],e)
 | (b,cs)::l,ns,e=>let p:=lb cs ns e;let r:=pinT l p.2.2 p.2.1;((b,p.1)::r.1,r.2)
def pinV:V->List Nat->V×E
 | .one c,n::_=>((.one (pinC c n).1),(pinC c n).2)
 | .agg cs,ns=>let r:=lb cs ns (.tt true);(.agg r.1,r.2.1)
 | .tup l,ns=>let r:=pinT l ns (.tt true);(.tup r.1,r.2)
 | v,_=>(v,.tt true)
def pinK (pls:List Pl) (e:E) (k:Eff->Kw->Tr):Eff->Kw->Tr:=fun eff kw=>match amS pls (vC e) with
 | none=>k eff kw
 | some r=>.br (pinV eff.val r).2 (k {eff with val:=(pinV eff.val r).1} {kw with pc:=((pinV eff.val r).2,true)::kw.pc}) (.stuck 260)
def aiH (cx:Cx) (vw:Vw) (g:Nat) (args:List V) (kw:Kw) (k:Eff->Kw->Tr):Tr:=match av (800000+g) cx.hints with
 | none=>yg cx vw g args kw k
 | some pls=>match nV kw.vk vw g args cx.sm with
   | some (_,e)=>yg cx vw g args kw (pinK pls e k)
   | none=>.stuck (700000+g)
theorem uO {U:Env} {j:J} (c:C) (n:Nat) (h:(pinC c n).2.B U=true):(pinC c n).1.den U j=c.den U j:=by
 cases c<;>first | rfl | skip
 ·simp only[pinC,E.B,E.I,aZ] at h
  simp only[pinC,C.den,E.I,h]
 ·simp only[pinC,E.B,aZ] at h
  simp only[pinC,C.den,E.B,h]
theorem mq {U:Env} {j:J}:∀(cs:List C) (ns:List Nat) (e:E),(lb cs ns e).2.1.B U=true->e.B U=true/\denL U j (lb cs ns e).1=denL U j cs
 | c::cs,n::ns,e,h=>by
   obtain⟨h1,h2⟩:=mq (U:=U) (j:=j) cs ns (jD (pinC c n).2 e) h
   rw[eC,thm0] at h1
   refine⟨h1.2,?_⟩
   show denL U j ((pinC c n).1::(lb cs ns (jD (pinC c n).2 e)).1)=_
   simp only[denL,uO c n h1.1,h2]
 | [],ns,e,h=>by cases ns<;>exact⟨h,rfl⟩
 | c::cs,[],e,h=>⟨h,rfl⟩
theorem adc {U:Env} {j:J}:∀(l:List (Bool×List C)) (ns:List Nat) (e:E),(pinT l ns e).2.B U=true->e.B U=true/\bK U j (pinT l ns e).1=bK U j l
 | [],ns,e,h=>⟨h,rfl⟩
 | (b,cs)::l,ns,e,h=>by
   obtain⟨h1,h2⟩:=adc (U:=U) (j:=j) l (lb cs ns e).2.2 (lb cs ns e).2.1 h
   obtain⟨h3,h4⟩:=mq (U:=U) (j:=j) cs ns e h1
   refine⟨h3,?_⟩
   show bK U j ((b,(lb cs ns e).1)::(pinT l (lb cs ns e).2.2 (lb cs ns e).2.1).1)=_
   have h5:den0 U j (b,(lb cs ns e).1)=den0 U j (b,cs):=by
    cases b with
    | true=>simp only[den0,h4]
    | false=>
      rcases cs with _ | ⟨c,_ | ⟨c2,cs⟩⟩<;>rcases ns with _ | ⟨n,ns⟩<;>first | rfl | skip
      ·have h6:=(mq (U:=U) (j:=j) [] ns (jD (pinC c n).2 e) h1).1
       rw[eC,thm0] at h6
       exact uO c n h6.1
      ·cases ns<;>rfl
   simp only[bK,h5,h2]
theorem ak1 {U:Env} {j:J} (v:V) (ns:List Nat) (h:(pinV v ns).2.B U=true):(pinV v ns).1.den U j=v.den U j:=by
 cases v with
 | one c=>cases ns with
   | nil=>rfl
   | cons n ns=>exact uO c n h
 | agg cs=>
   have:=(mq (U:=U) (j:=j) cs ns (.tt true) h).2
   show(V.agg (lb cs ns (.tt true)).1).den U j=_
   simp only[V.den,this]
 | tup l=>
   have:=(adc (U:=U) (j:=j) l ns (.tt true) h).2
   show(V.tup (pinT l ns (.tt true)).1).den U j=_
   simp only[V.den,this]
 | top=>rfl
def mmK (f:E->E->E) (k0:IntKind):E->List V->Option E
 | e,[]=>some e
 | e,.one (.int k x)::l=>if bz k k0 then mmK f k0 (f e x) l else none
 | _,_=>none
def akl (cx:Cx):Bool:=(av 999999 cx.hints).isSome
def amq (cx:Cx):Nat:=if akl cx then 3 else 12
def binK (cx:Cx) (op:BinOp) (xt:Nat) (x y:V) (kw:Kw) (k:Eff->Kw->Tr):Tr:=
 match x,y with
 | .one (.int k1 a),.one (.int k2 b)=>
   match op with
   | .shl | .shr=>
     if k2.signed then decK (mkLt b (.lit 0)) (fun neg kw=>if neg then .panic else k {val:=.one (.int k1 (kv op k1 a b))} kw) kw
     else if b.rng kw.vk k2 then k {val:=.one (.int k1 (kv op k1 a b))} kw else .stuck 11
   | _=>
     if bz k1 k2 then
      match op with
      | .add | .sub | .mul | .and | .or | .xor | .andNot=>k {val:=.one (.int k1 (kv op k1 a b))} kw
      | .quo | .rem=>decK (mkEq b (.lit 0)) (fun z kw=>if z then .panic else k {val:=.one (.int k1 (kv op k1 a b))} kw) kw
      | .eql=>k {val:=.one (.bool (mkEq a b))} kw
      | .neq=>k {val:=.one (.bool (gE (mkEq a b)))} kw
      | .lss=>k {val:=.one (.bool (mkLt a b))} kw
      | .leq=>k {val:=.one (.bool (gE (mkLt b a)))} kw
      | .gtr=>k {val:=.one (.bool (mkLt b a))} kw
      | .geq=>k {val:=.one (.bool (gE (mkLt a b)))} kw
      | _=>.stuck 12
     else .stuck 13
 | .one (.bool a),.one (.bool b)=>
   match op with
   | .eql=>match av xt cx.ty with
     | some i=>if i.isb then k {val:=.one (.bool (adv a b))} kw else .stuck 14
     | none=>.stuck 14
   | .neq=>match av xt cx.ty with
     | some i=>if i.isb then k {val:=.one (.bool (gE (adv a b)))} kw else .stuck 14
     | none=>.stuck 14
   | _=>.stuck 15
 | .one (.clo _ _ _),.one .nf=>
   match av xt cx.ty with
   | some i=>if i.fnt then
    match op with
    | .eql=>k {val:=.one (.bool (.tt false))} kw
    | .neq=>k {val:=.one (.bool (.tt true))} kw
    | _=>.stuck 51
     else .stuck 52
   | none=>.stuck 52
 | .one (.fn _),.one .nf | .one .nf,.one .nf=>
   match av xt cx.ty with
   | some i=>if i.fnt then
    match op,x with
    | .eql,.one .nf=>k {val:=.one (.bool (.tt true))} kw
    | .neq,.one .nf=>k {val:=.one (.bool (.tt false))} kw
    | .eql,_=>k {val:=.one (.bool (.tt false))} kw
    | .neq,_=>k {val:=.one (.bool (.tt true))} kw
    | _,_=>.stuck 51
     else .stuck 52
   | none=>.stuck 52
 | .agg cs,.agg ds=>
   match av xt cx.ty,qT (amq cx) cs ds with
   | some i,some e=>
     if i.eqok&&((eM cs i.zero&&rngs kw.vk cs kw.vk 0)&&(eM ds i.zero&&rngs kw.vk ds kw.vk 0)) then
      match op with
      | .eql=>k {val:=.one (.bool e)} kw
      | .neq=>k {val:=.one (.bool (gE e))} kw
      | _=>.stuck 16
     else .stuck 17
   | _,_=>.stuck 18
 | _,_=>.stuck 19
def sK (e:E) (n:Nat) (k:Nat->Kw->Tr):Nat->Kw->Tr
 | 0,_=>.panic
 | m+1,kw=>decK (mkEq e (.lit (n-(m+1):Nat))) (fun b kw=>if b then k (n-(m+1)) kw else sK e n k m kw) kw
def yS (cx:Cx) (ft:Nat) (cs:List C) (off:Nat):Option V:=
 match av ft cx.ty with
 | some i=>if i.agg then(if off+i.size<=cs.length then some (.agg ((cs.drop off).take i.size)) else none) else(cs[off]?).map .one
 | none=>none
def je:List C->Nat->List C->List C
 | cs,_,[]=>cs
 | cs,off,v::r=>je (cs.set off v) (off+1) r
def vn (pl:Nat->Option (Nat×Nat)):List C->List (Nat×V)->Option (List C)
 | cs,[]=>some cs
 | cs,(i,v)::l=>match pl i with
   | some (off,size)=>if v.flat&&(Nat.beq v.cells.length size&&decide (off+size<=cs.length)) then vn pl (je cs off v.cells) l else none
   | none=>none
def evP (ev:Operand->Option V):List (Nat×Operand)->Option (List (Nat×V))
 | []=>some []
 | (i,x)::l=>match ev x,evP ev l with
   | some v,some vs=>some ((i,v)::vs)
   | _,_=>none
def mo (ty:List (Nat×TI)):List (Nat×Nat)->Option (List (Nat×Nat))
 | []=>some []
 | (off,ft)::l=>match av ft ty,mo ty l with
   | some i,some r=>some ((off,i.size)::r)
   | _,_=>none
def aeG (cx:Cx) (t:Nat) (parts:List (Nat×V)):Option V:=
 match av t cx.ty with
 | some i=>match i.arr with
   | some (_,et)=>match av et cx.ty with
     | some ie=>(vn (fun m=>some (m*ie.size,ie.size)) i.zero parts).map .agg
     | none=>none
   | none=>if i.agg then(match mo cx.ty i.fields with
     | some pl=>(vn (fun m=>pl[m]?) i.zero parts).map .agg
     | none=>none) else none
 | none=>none
def E.isLit:E->Bool
 | .lit _=>true
 | _=>false
def inR (e:E) (n:Nat):E:=jD (gE (mkLt e (.lit 0))) (mkLt e (.lit n))
def colE (k:IntKind) (sz c:Nat):Nat->List C->Option E
 | 0,_=>some .nil
 | n+1,cs=>match cs[c]?,colE k sz c n (cs.drop sz) with
   | some (.int k' a),some t=>if bz k k' then some (.cons a t) else none
   | _,_=>none
def vx (e:E) (n sz:Nat) (cs:List C):Nat->Nat->Option (List C)
 | _,0=>some []
 | c,m+1=>match cs[c]? with
   | some (.int k _)=>match colE k sz c n cs,vx e n sz cs (c+1) m with
     | some l,some r=>some (.int k (.nth e l)::r)
     | _,_=>none
   | _=>none
def setI (c:E):Nat->List C->List C->Option (List C)
 | off+1,x::xs,vc=>(setI c off xs vc).map (x::·)
 | 0,xs,[]=>some xs
 | 0,.int k a::xs,.int k' x::vc=>if bz k k' then(setI c 0 xs vc).map (.int k (.ite c x a)::·) else none
 | _,_,_=>none
def iteR (e:E) (off sz:Nat) (vc:List C):Nat->Nat->List C->Option (List C)
 | _,0,cs=>some cs
 | m,n+1,cs=>match setI (.eq e (.lit m)) off (cs.take sz) vc,iteR e off sz vc (m+1) n (cs.drop sz) with
   | some a,some b=>some (a++b)
   | _,_=>none
def inB (e l:E):E:=jD (gE (mkLt e (.lit 0))) (mkLt e (fW l))
def inA (vw:Vw):List V->E
 | []=>.tt true
 | .one (.ep id _ e 0)::l=>match vw.sw id with
   | some r=>jD (inB e r.l) (inA vw l)
   | none=>inA vw l
 | _::l=>inA vw l
def al9 (cx:Cx) (vw:Vw) (g:Nat) (args:List V) (kw:Kw) (k:Eff->Kw->Tr):Tr:=decK (inA vw args) (fun b kw=>if b then aiH cx vw g args kw k else .stuck 262) kw
def lenE (vk:List VK) (l:E):E:=match fW l with
 | .lit z=>.lit z
 | e=>if e.rng vk .i64 then e else .conv .i64 e
def catE (a b:E):E:=match b with
 | .lq .ln r=>.lq a r
 | b=>match a with | .ln=>b | a=>.lcat a b
def bigB:Int:=1073741824
def opK (cx:Cx) (vw:Vw) (op:Op) (kw:Kw) (k:Eff->Kw->Tr):Tr:=
 match op with
 | .move x | .assign x=>match vw.ev x with
   | some v=>k {val:=v} kw
   | none=>.stuck 1
 | .alloc t=>match av t cx.ty with
   | some i=>k {val:=.one (.ptr vw.nid 0),al:=some (i.zero,t)} kw
   | none=>.stuck 2
 | .box t x=>match vw.ev x with
   | some v=>if v.flat then k {val:=.one (.ptr vw.nid 0),al:=some (v.cells,t)} kw else .stuck 3
   | none=>.stuck 3
 | .load t x=>match vw.ev x,av t cx.ty with
   | some (.one (.ptr b o)),some i=>
     if i.agg then(match vw.row b o i.size with
      | some cs=>k {val:=.agg cs,rd:=dU b o i.size} kw
      | none=>.stuck 4)
     else(match vw.ld b o with
      | some c=>k {val:=.one c,rd:=[(b,o)]} kw
      | none=>.stuck 4)
   | some (.one (.fp b o)),some i=>
     if i.agg then(match(vw.fb b).bind fun cs=>seg cs o i.size with
      | some cs=>if cs.all C.solid then k {val:=.agg cs} kw else .stuck 226
      | none=>.stuck 4)
     else(match(vw.fb b).bind (·[o]?) with
      | some c=>if c.solid then k {val:=.one c} kw else .stuck 226
      | none=>.stuck 4)
   | some (.one (.pe b o n sz e off)),some i=>match vw.row b o (n*sz) with
     | some cs=>if decide (off+i.size<=sz) then
      decK (inR e n) (fun ok kw=>if ok then
       (match vx e n sz cs off i.size with
       | some ds=>if i.agg then k {val:=.agg ds,rd:=dU b o (n*sz)} kw else(match ds with
         | [d]=>k {val:=.one d,rd:=dU b o (n*sz)} kw
         | _=>.stuck 160)
       | none=>.stuck 161)
       else .stuck 162) kw
       else .stuck 163
     | none=>.stuck 164
   | some (.one (.ep id esz e off)),some i=>match vw.sw id with
     | some r=>if Nat.beq r.ks.length esz&&decide (off+i.size<=esz) then
      decK (inB e r.l) (fun b kw=>if b then
       (if i.agg then k {val:=.agg (wS r.l e off ((r.ks.drop off).take i.size)),rr:=[id]} kw
       else match r.ks[off]? with
        | some ck=>k {val:=.one (rowC r.l e off ck),rr:=[id]} kw
        | none=>.stuck 53)
       else .stuck 54) kw
       else .stuck 55
     | none=>.stuck 56
   | _,_=>.stuck 5
 | .store t x y=>match vw.ev x,vw.ev y,av t cx.ty with
   | some (.one (.ptr b o)),some v,some i=>
     if v.flat&&(Nat.beq v.cells.length i.size&&v.cells.all C.solid) then k {val:=.one .undef,wr:=eB b o v.cells} kw else .stuck 6
   | some (.one (.pe b o n sz e off)),some v,some i=>match vw.row b o (n*sz) with
     | some cs=>if v.flat&&(Nat.beq v.cells.length i.size&&(decide (off+i.size<=sz)&&Nat.beq cs.length (n*sz))) then
      decK (inR e n) (fun ok kw=>if ok then
       (match iteR e off sz v.cells 0 n cs with
       | some ds=>if ds.all C.solid&&(cs.all C.solid&&v.cells.all C.solid) then k {val:=.one .undef,rd:=dU b o (n*sz),wr:=eB b o ds} kw else .stuck 165
       | none=>.stuck 166)
       else .stuck 167) kw
       else .stuck 168
     | none=>.stuck 169
   | some (.one (.ep id esz e off)),some v,some i=>match vw.sw id with
     | some r=>if r.own&&(Nat.beq r.ks.length esz&&(v.flat&&(Nat.beq v.cells.length i.size&&decide (off+i.size<=esz)))) then
      decK (inB e r.l) (fun b kw=>if b then
       (match fq kw.vk r.l e off (r.ks.drop off) v.cells with
        | some l=>k {val:=.one .undef,rr:=[id],re:=.set id {r with l:=l}} kw
        | none=>.stuck 57)
       else .stuck 58) kw
       else .stuck 59
     | none=>.stuck 62
   | _,_,_=>.stuck 7
 | .nilCheck x=>match vw.ev x with
   | some (.one (.ptr b o))=>k {val:=.one (.ptr b o)} kw
   | some (.one (.fp b o))=>k {val:=.one (.fp b o)} kw
   | some (.one (.pe b o n sz e off))=>k {val:=.one (.pe b o n sz e off)} kw
   | some (.one (.fn g))=>k {val:=.one (.fn g)} kw
   | some (.one (.ep id esz e off))=>k {val:=.one (.ep id esz e off)} kw
   | some (.one (.clo g fs ps))=>k {val:=.one (.clo g fs ps)} kw
   | some (.one .np)=>.panic
   | _=>.stuck 8
 | .binOp op xt x y _=>match vw.ev x,vw.ev y with
   | some v,some u=>binK cx op xt v u kw k
   | _,_=>.stuck 9
 | .unOp op _ x=>match op,vw.ev x with
   | .not,some (.one (.bool e))=>k {val:=.one (.bool (gE e))} kw
   | .neg,some (.one (.int kd e))=>k {val:=.one (.int kd (kv .sub kd (.lit 0) e))} kw
   | .xor,some (.one (.int kd e))=>k {val:=.one (.int kd (kv .xor kd (.lit (if kd.signed then -1 else kd.max)) e))} kw
   | _,_=>.stuck 10
 | .convert s d x=>match vw.ev x,av d cx.ty,av s cx.ty with
   | some (.one (.int _ e)),some i,some _=>match i.ik with
     | some kd=>k {val:=.one (.int kd (if e.rng kw.vk kd then e else xw kd e))} kw
     | none=>.stuck 20
   | _,_,_=>.stuck 21
 | .fieldAddr s x f=>match vw.ev x,av s cx.ty with
   | some (.one (.ptr b o)),some i=>match i.fields[f]? with
     | some (off,_)=>k {val:=.one (.ptr b (o+off))} kw
     | none=>.stuck 22
   | some (.one (.fp b o)),some i=>match i.fields[f]? with
     | some (off,_)=>k {val:=.one (.fp b (o+off))} kw
     | none=>.stuck 22
   | some (.one (.pe b o n sz e off0)),some i=>match i.fields[f]? with
     | some (off,_)=>k {val:=.one (.pe b o n sz e (off0+off))} kw
     | none=>.stuck 22
   | some (.one (.ep id esz e o)),some i=>match i.fields[f]? with
     | some (off,_)=>k {val:=.one (.ep id esz e (o+off))} kw
     | none=>.stuck 22
   | _,_=>.stuck 23
 | .field s x f=>match vw.ev x,av s cx.ty with
   | some (.agg cs),some i=>match i.fields[f]? with
     | some (off,ft)=>match yS cx ft cs off with
       | some v=>k {val:=v} kw
       | none=>.stuck 24
     | none=>.stuck 25
   | _,_=>.stuck 26
 | .indexAddr t x y=>match vw.ev x,vw.ev y,av t cx.ty with
   | some (.one (.ptr b o)),some (.one (.int _ e)),some i=>match i.arr with
     | some (n,et)=>match av et cx.ty with
       | some ie=>if akl cx&&(!e.isLit &&!ie.fnt) then decK (inR e n) (fun ok kw=>if ok then k {val:=.one (.pe b o n ie.size e 0)} kw else .panic) kw else sK e n (fun m kw=>k {val:=.one (.ptr b (o+m*ie.size))} kw) n kw
       | none=>.stuck 27
     | none=>.stuck 28
   | some (.one (.ep id esz e0 o)),some (.one (.int _ e)),some i=>match i.arr with
     | some (n,et)=>match av et cx.ty with
       | some ie=>sK e n (fun m kw=>k {val:=.one (.ep id esz e0 (o+m*ie.size))} kw) n kw
       | none=>.stuck 27
     | none=>.stuck 28
   | some (.one (.sl id)),some (.one (.int _ e)),some i=>match i.sle with
     | some et=>match av et cx.ty,vw.sw id with
       | some ie,some r=>if Nat.beq r.ks.length ie.size then decK (inB e r.l) (fun b kw=>if b then k {val:=.one (.ep id ie.size e 0),rr:=[id]} kw else .panic) kw else .stuck 63
       | _,_=>.stuck 64
     | none=>.stuck 65
   | some (.one .nsl),some (.one (.int _ _)),some _=>.panic
   | _,_,_=>.stuck 29
 | .index t x y=>match vw.ev x,vw.ev y,av t cx.ty with
   | some (.agg cs),some (.one (.int _ e)),some i=>match i.arr with
     | some (n,et)=>match av et cx.ty with
       | some ie=>sK e n (fun m kw=>match yS cx et cs (m*ie.size) with
         | some v=>k {val:=v} kw
         | none=>.stuck 30) n kw
       | none=>.stuck 31
     | none=>.stuck 32
   | _,_,_=>.stuck 33
 | .pick c x y=>match vw.ev c,vw.ev x,vw.ev y with
   | some (.one (.bool e)),some u,some v=>decK e (fun b kw=>k {val:=if b then u else v} kw) kw
   | _,_,_=>.stuck 42
 | .build t ps=>match evP vw.ev ps.toList with
   | some parts=>match aeG cx t parts with
     | some v=>k {val:=v} kw
     | none=>.stuck 43
   | none=>.stuck 44
 | .buildSlice t n ps=>match evP vw.ev ps.toList,av t cx.ty with
   | some parts,some i=>match i.sle with
     | some et=>match av et cx.ty with
       | some ie=>match ksOf ie.zero,vn (fun m=>some (m*ie.size,ie.size)) ((List.replicate n ie.zero).flatten) parts with
         | some ks,some cs=>match yN kw.vk ks n cs with
           | some l=>if decide (n*ie.size<=16777216)&&(decide (0<ie.size)&&Nat.beq ks.length ie.size) then k {val:=.one (.sl vw.nid),re:=.mk [⟨ks,et,l,true,.sl⟩]} kw else .stuck 66
           | none=>.stuck 67
         | _,_=>.stuck 68
       | none=>.stuck 69
     | none=>.stuck 74
   | _,_=>.stuck 75
 | .makeSlice t x y=>.stuck 300
 | .slice t x lo hi none=>.stuck 300
 | .makeMap t none=>.stuck 300
 | .lookup t x y ok=>.stuck 300
 | .mapUpdate t x y z=>.stuck 300
 | .range t x=>.stuck 300
 | .entry x=>.stuck 300
 | .makeFunc fn fs ps=>match fn,capE vw.ev fs.toList,capE vw.ev ps.toList with
   | .func g,some a,some b=>k {val:=.one (.clo g a b)} kw
   | _,_,_=>.stuck 119
 | .extract x n=>match vw.ev x with
   | some (.tup vs)=>match vs[n]? with
     | some (true,cs)=>k {val:=.agg cs} kw
     | some (false,[c])=>k {val:=.one c} kw
     | _=>.stuck 34
   | _=>.stuck 35
 | .call c=>match c.callee with
   | .value f=>match vw.ev f,evL vw.ev c.args.toList with
     | some (.one (.fn g)),some args=>al9 cx vw g args kw k
     | _,_=>.stuck 36
   | .builtin .len=>match evL vw.ev c.args.toList,c.argTypes.toList with
     | some [.one (.sl id)],[t]=>match av t cx.ty,vw.sw id with
       | some i,some r=>if i.sle.isSome then k {val:=.one (.int .i64 (lenE kw.vk r.l)),rr:=[id]} kw else .stuck 91
       | _,_=>.stuck 92
     | some [.one .nsl],[t]=>match av t cx.ty with
       | some i=>if i.sle.isSome then k {val:=.one (.int .i64 (.lit 0))} kw else .stuck 91
       | none=>.stuck 92
     | _,_=>.stuck 93
   | .builtin .append=>match evL vw.ev c.args.toList,c.argTypes.toList with
     | some [.one s,.one (.sl id)],[t,t']=>match av t cx.ty,vw.sw id with
       | some i,some r=>match i.sle with
         | some et=>match av et cx.ty with
           | some ie=>if Nat.beq t t'&&(Nat.beq r.ty et&&(Nat.beq r.ks.length ie.size&&(decide (0<ie.size)&&decide (ie.bytes<=65536)))) then
            (match s with
            | .nsl=>decK (mkLt (fW r.l) (.lit bigB)) (fun b kw=>if b then k {val:=.one (.sl vw.nid),rr:=[id],re:=.mk [⟨r.ks,et,r.l,true,.sl⟩]} kw else .panic) kw
            | .sl old=>match vw.sw old with
              | some q=>if q.own&&(Nat.beq q.ty et&&(cO q.ks r.ks &&!Nat.beq old id)) then
               decK (jD (mkLt (fW q.l) (.lit bigB)) (mkLt (fW r.l) (.lit bigB))) (fun b kw=>if b then k {val:=.one (.sl vw.nid),rr:=[old,id],re:=.app old ⟨r.ks,et,catE q.l r.l,true,.sl⟩} kw else .panic) kw
                else .stuck 94
              | none=>.stuck 95
            | _=>.stuck 96)
             else .stuck 97
           | none=>.stuck 98
         | none=>.stuck 99
       | _,_=>.stuck 101
     | _,_=>.stuck 102
   | .builtin .min=>match evL vw.ev c.args.toList with
     | some (.one (.int k0 e)::l)=>match mmK adr k0 e l with
       | some e'=>k {val:=.one (.int k0 e')} kw
       | none=>.stuck 37
     | _=>.stuck 38
   | .builtin .max=>match evL vw.ev c.args.toList with
     | some (.one (.int k0 e)::l)=>match mmK ads k0 e l with
       | some e'=>k {val:=.one (.int k0 e')} kw
       | none=>.stuck 39
     | _=>.stuck 40
   | _=>.stuck 41
 | _=>.stuck 50
def RdOk (U:Env) (j:J) (w:World) (ld:Nat->Nat->Option C) (rd:List (Nat×Nat)):Prop:=
 ∀p∈rd,∀c,ld p.1 p.2=some c->∃k v,j.b p.1=some k/\c.den U j=some v/\w.cell? ⟨k,p.2,none⟩=some v
def WrOk (j:J) (w:World) (wr:List (Nat×Nat×C)):Prop:=
 ∀p∈wr,∃k u,j.b p.1=some k/\w.cell? ⟨k,p.2.1,none⟩=some u/\w.frozen? ⟨k,p.2.1,none⟩=false
def pw (U:Env) (j:J):List (Nat×Nat×C)->World->World->Prop
 | [],w,w'=>w'=w
 | (b,o,c)::l,w,w'=>∃k v,j.b b=some k/\c.den U j=some v/\pw U j l (w.setCell ⟨k,o,none⟩ v) w'
theorem ed:∀{ks:List CE} {r:List Int},aF ks r=true->(rowV ks r).length=ks.length
 | [],[],_=>rfl
 | k::ks,x::xs,h=>by
   simp only[aF,thm0] at h
   simp[rowV,ed h.2]
theorem qp:∀{ks:List CE} {r:List Int} {c:Nat} {k:CE},aF ks r=true->ks[c]? =some k->(rowV ks r)[c]? =some (iG k (r.getD c 0))
 | k0::ks,x::xs,c,k,h,hc=>by
   simp only[aF,thm0] at h
   cases c with
   | zero=>simp at hc;subst hc;simp[rowV]
   | succ c=>simpa[rowV] using qp h.2 (by simpa using hc)
 | [],_,c,k,_,hc=>by simp at hc
theorem wQ:∀{ks:List CE} {r:List Int} {c:Nat} {k:CE},aF ks r=true->ks[c]? =some k->∀x,(rowV ks r).set c (iG k x)=rowV ks (r.set c x)
 | k0::ks,y::ys,c,k,h,hc,x=>by
   simp only[aF,thm0] at h
   cases c with
   | zero=>simp at hc;subst hc;simp[rowV]
   | succ c=>simp[rowV,wQ h.2 (by simpa using hc) x]
 | [],_,c,k,_,hc,_=>by simp at hc
theorem dN (ks:List CE) (r:List Int) (L:List (List Int)):flat ks (r::L)=rowV ks r++flat ks L:=by simp[flat]
theorem vl (ks:List CE) (L M:List (List Int)):flat ks (L++M)=flat ks L++flat ks M:=by simp[flat]
theorem cZ {ks:List CE}:∀{L:List (List Int)},(∀r∈L,aF ks r=true)->(flat ks L).length=L.length*ks.length
 | [],_=>by simp[flat]
 | r::L,h=>by
   rw[dN,fD,ed (h r cd),cZ (fun x hx=>h x (dk _ hx)),List.length_cons,Nat.succ_mul,Nat.add_comm]
theorem mz {ks:List CE} {c:Nat} {k:CE} (hc:ks[c]? =some k):∀{L:List (List Int)} {i:Nat},(∀r∈L,aF ks r=true)->i<L.length->(flat ks L)[i*ks.length+c]? =some (iG k ((L.getD i []).getD c 0))
 | [],i,_,hi=>absurd hi (by simp)
 | r::L,i,h,hi=>by
   have hcl:c<ks.length:=by
    rcases bq c ks.length with h1 | h1
    ·exact h1
    ·rw[bX h1] at hc;cases hc
   have hl:=ed (h r cd)
   cases i with
   | zero=>
     rw[dN,Nat.zero_mul,bG,thm8 (by omega),qp (h r cd) hc]
     rfl
   | succ i=>
     rw[dN,thm9 (by rw[hl,Nat.succ_mul];omega),hl,show(i+1)*ks.length+c-ks.length=i*ks.length+c by rw[Nat.succ_mul];omega]
     rw[mz hc (fun x hx=>h x (dk _ hx)) (by simpa using hi)]
     rfl
theorem xR {ks:List CE} {c:Nat} {k:CE} (hc:ks[c]? =some k) (x:Int):∀{L:List (List Int)} {i:Nat},(∀r∈L,aF ks r=true)->i<L.length->(flat ks L).set (i*ks.length+c) (iG k x)=flat ks (L.set i ((L.getD i []).set c x))
 | [],i,_,hi=>absurd hi (by simp)
 | r::L,i,h,hi=>by
   have hcl:c<ks.length:=by
    rcases bq c ks.length with h1 | h1
    ·exact h1
    ·rw[bX h1] at hc;cases hc
   have hl:=ed (h r cd)
   cases i with
   | zero=>
     rw[dN,Nat.zero_mul,bG,List.set_append_left _ _ (by omega),wQ (h r cd) hc]
     rfl
   | succ i=>
     rw[dN,List.set_append_right _ _ (by rw[hl,Nat.succ_mul];omega),hl,show(i+1)*ks.length+c-ks.length=i*ks.length+c by rw[Nat.succ_mul];omega]
     rw[xR hc x (fun y hy=>h y (dk _ hy)) (by simpa using hi)]
     show _=flat ks (r::L.set i _)
     rw[dN]
     rfl
theorem xS {ks:List CE}:∀{L:List (List Int)},∀u∈flat ks L,u.oneCell'=true:=by
 have row:∀(ks:List CE) (r:List Int),∀u∈rowV ks r,u.oneCell'=true:=by
  intro ks
  induction ks with
  | nil=>intro r u hu;simp[rowV] at hu
  | cons k ks ih=>
    intro r u hu
    cases r with
    | nil=>simp[rowV] at hu
    | cons x xs=>
      simp only[rowV,List.mem_cons] at hu
      rcases hu with rfl | hu
      ·cases k<;>rfl
      ·exact ih xs u hu
 intro L u hu
 simp only[flat,List.mem_flatMap] at hu
 obtain⟨r,_,hu⟩:=hu
 exact row ks r u hu
structure SlOk (U:Env) (base:Nat) (w:World) (s:SV) (r:RowOb):Prop where
 n:s.n=(r.l.R U).length
 rows:RowsIn r.ks (r.l.R U)
 pos:0<r.ks.length
 lt:∀k,s.blk r.own=some k->k<w.heap.size
 own:r.own=true->w.ownsRow base r.ty r.ks.length s.v s.n (flat r.ks (r.l.R U))
 rd:RdRow w r.ks.length s (flat r.ks (r.l.R U))
def aiG (agg:Bool) (vs:List Value):Value:=if agg then .agg vs.toArray else vs.headD undef
def entV (ks:List CE) (nk:Nat) (ka va:Bool) (i:Nat) (r:List Int):MapEntry:=⟨aiG ka ((rowV ks r).take nk),aiG va ((rowV ks r).drop nk),i⟩
def an9 (ks:List CE) (nk:Nat) (ka va:Bool):Nat->List (List Int)->List MapEntry
 | _,[]=>[]
 | i,r::L=>entV ks nk ka va i r::an9 ks nk ka va (i+1) L
def idxs (L:List (List Int)):List Nat:=L.map fun r=>(r.getD 0 0).toNat
def obOf (U:Env) (s:SV) (r:RowOb) (o:Obj):Prop:=
 match r.kd with
 | .sl=>False
 | .ev=>False
 | .map nk ka va=>o=.map (an9 r.ks nk ka va 0 (r.l.R U)).toArray (r.l.R U).length
 | .tab=>∃(ps:List (Option Addr)) (ty:Nat),o=.cells (ps.map Value.pointer).toArray ty (0,0)
 | .it _ n=>r.ks=[some .i64]/\o=.mapIter (some s.n) (n.I U).toNat (idxs (r.l.R U)).toArray (n.I U).toNat/\(r.l.R U).Nodup/\∀x∈r.l.R U,0<=x.getD 0 0/\x.getD 0 0<n.I U
structure HdOk (U:Env) (base:Nat) (w:World) (s:SV) (r:RowOb):Prop where
 own:r.own=true
 rows:RowsIn r.ks (r.l.R U)
 c:s.c=1
 at':∃g o,s.a=some ⟨g,0,none⟩/\base<=g/\w.heap[g]? =some o/\obOf U s r o
structure EiOk (z:List (Nat×Obj)) (row:List Int) (x:SV):Prop where
 n:(x.n:Int)=row.getD 2 0
 most:x.n<=5
 rest:(row.drop 3).drop x.n=List.replicate (5-x.n) 0
 rd:∀w:World,(∀p∈z,w.heap[p.1]? =some p.2)->RdRow w 1 x (aiC row)
 blk:∀k,x.blk false=some k->∃o,(k,o)∈z
theorem EiOk.mono {z z':List (Nat×Obj)} {row:List Int} {x:SV} (h:EiOk z row x) (hz:∀p∈z,p∈z'):EiOk z' row x:=
 ⟨h.n,h.most,h.rest,fun w hw=>h.rd w (fun p hp=>hw p (hz p hp)),fun k hk=>let⟨o,ho⟩:=h.blk k hk;⟨o,hz _ ho⟩⟩
structure EvOk (U:Env) (base:Nat) (w:World) (s:SV) (r:RowOb):Prop where
 ks:r.ks=evKs
 n:s.n=(r.l.R U).length
 rows:RowsIn r.ks (r.l.R U)
 lt:∀k,s.blk r.own=some k->k<w.heap.size
 zb:r.own=true->∀p∈s.z,base<=p.1
 at':∃ins:List SV,ins.length=(r.l.R U).length/\(r.own=true->w.ownsRow base r.ty 3 s.v s.n (tB (r.l.R U) ins))/\RdRow w 3 s (tB (r.l.R U) ins)/\∀(i:Nat) row x,(r.l.R U)[i]? =some row->ins[i]? =some x->EiOk s.z row x
def RowOk (U:Env) (base:Nat) (w:World) (s:SV) (r:RowOb):Prop:=(r.kd=.sl->SlOk U base w s r)/\(r.kd.isHd=true->HdOk U base w s r)/\(r.kd=.ev->EvOk U base w s r)
theorem SlOk.row {U:Env} {base:Nat} {w:World} {s:SV} {r:RowOb} (h:SlOk U base w s r) (hk:r.kd=.sl):RowOk U base w s r:=⟨fun _=>h,fun hn=>(by rw[hk] at hn;cases hn),fun hn=>(by rw[hk] at hn;cases hn)⟩
theorem HdOk.row {U:Env} {base:Nat} {w:World} {s:SV} {r:RowOb} (h:HdOk U base w s r) (hk:r.kd.isHd=true):RowOk U base w s r:=⟨fun e=>(by rw[e] at hk;cases hk),fun _=>h,fun e=>(by rw[e] at hk;cases hk)⟩
theorem EvOk.row {U:Env} {base:Nat} {w:World} {s:SV} {r:RowOb} (h:EvOk U base w s r) (hk:r.kd=.ev):RowOk U base w s r:=⟨fun e=>(by rw[e] at hk;cases hk),fun e=>(by rw[hk] at e;cases e),fun _=>h⟩
theorem RowOk.cases {U:Env} {base:Nat} {w:World} {s:SV} {r:RowOb} (h:RowOk U base w s r):(r.kd=.sl/\SlOk U base w s r)\/(r.kd.isHd=true/\HdOk U base w s r)\/(r.kd=.ev/\EvOk U base w s r):=by
 cases hk:r.kd with
 | sl=>exact .inl ⟨rfl,h.1 hk⟩
 | map a b c=>exact .inr (.inl ⟨rfl,h.2.1 (by rw[hk];rfl)⟩)
 | it a b=>exact .inr (.inl ⟨rfl,h.2.1 (by rw[hk];rfl)⟩)
 | tab=>exact .inr (.inl ⟨rfl,h.2.1 (by rw[hk];rfl)⟩)
 | ev=>exact .inr (.inr ⟨rfl,h.2.2 hk⟩)
theorem RowOk.rows {U:Env} {base:Nat} {w:World} {s:SV} {r:RowOb} (h:RowOk U base w s r):RowsIn r.ks (r.l.R U):=by
 rcases h.cases with⟨_,h⟩ | ⟨_,h⟩ | ⟨_,h⟩<;>exact h.rows
theorem HdOk.blk {U:Env} {base:Nat} {w:World} {s:SV} {r:RowOb} (h:HdOk U base w s r) {o:Bool} {k:Nat} (hk:s.blk o=some k):∃ob,s.a=some ⟨k,0,none⟩/\base<=k/\w.heap[k]? =some ob/\obOf U s r ob/\k<w.heap.size:=by
 obtain⟨g,ob,h1,h2,h3,h4⟩:=h.at'
 have e:=aT hk
 simp only[SV.v,h1,Value.ownBlock,bH] at e
 subst e
 exact⟨ob,h1,h2,h3,h4,(fS.1 h3).1⟩
theorem HdOk.blkAt {U:Env} {base:Nat} {w:World} {s:SV} {r:RowOb} (h:HdOk U base w s r) {g:Nat} (hg:s.a=some ⟨g,0,none⟩) (o:Bool):s.blk o=some g:=by
 unfold SV.blk
 rw[if_pos (by rw[h.c];cases o<;>rfl)]
 simp[SV.v,hg,Value.ownBlock]
theorem ac6 {w:World} {base ty esz:Nat} {s:SV} {xs:List Value} (h:w.ownsRow base ty esz s.v s.n xs):RdRow w esz s xs:=by
 obtain⟨hl,h⟩:=h
 rcases h with⟨hv,hn⟩ | ⟨g,cap,cur,hv,hb,hg,hn,hm,hs,ht⟩
 ·obtain⟨a,n,c,z⟩:=s
  simp only[SV.v,Value.slice.injEq] at hv
  obtain⟨rfl,rfl,rfl⟩:=hv
  exact⟨hl,Nat.le_refl _,by simp[maxLen],fun _=>⟨rfl,rfl⟩,fun a ha=>by cases ha⟩
 ·obtain⟨a,n,c,z⟩:=s
  simp only[SV.v,Value.slice.injEq] at hv
  obtain⟨rfl,-,rfl⟩:=hv
  refine⟨hl,hn,hm,fun h=>(by cases h),fun a ha i u hu=> ?_⟩
  cases ha
  have:(⟨g,0,none⟩:Addr).add i=⟨g,i,none⟩:=by unfold Addr.add;split<;>simp_all
  rw[this,cell_of_row w g i cur ty (0,0) hg,<-ju]
  rw[<-ht] at hu
  simp only at hl hu
  rw[List.getElem?_take] at hu
  split at hu
  ·exact hu
  ·cases hu
theorem adh {w:World} {base ty esz:Nat} {s:SV} {n:Nat} {xs:List Value} (h:w.ownsRow base ty esz s.v n xs):∀k,s.v.ownBlock=some k->k<w.heap.size/\base<=k:=by
 intro k hk
 rcases h.2 with⟨hv,hn⟩ | ⟨g,cap,cur,hv,hb,hg,_⟩
 ·rw[hv] at hk;cases hk
 ·rw[hv] at hk
  cases hk
  refine⟨?_,hb⟩
  rcases bq g w.heap.size with h1 | h1
  ·exact h1
  ·rw[Array.getElem?_eq_none h1] at hg;cases hg
theorem RowOk.lt {U:Env} {base:Nat} {w:World} {s:SV} {r:RowOb} (h:RowOk U base w s r):∀k,s.blk r.own=some k->k<w.heap.size:=by
 intro k hk
 rcases h.cases with⟨_,h⟩ | ⟨_,h⟩ | ⟨_,h⟩
 ·exact h.lt k hk
 ·obtain⟨_,_,_,_,_,h5⟩:=h.blk hk
  exact h5
 ·exact h.lt k hk
theorem SlOk.mk_own {U:Env} {base:Nat} {w:World} {s:SV} {r:RowOb} (h1:s.n=(r.l.R U).length) (h2:RowsIn r.ks (r.l.R U)) (h3:0<r.ks.length) (h4:w.ownsRow base r.ty r.ks.length s.v s.n (flat r.ks (r.l.R U))):SlOk U base w s r:=
 ⟨h1,h2,h3,fun k hk=>(adh h4 k (aT hk)).1,fun _=>h4,ac6 h4⟩
theorem RowOk.owned {U:Env} {base:Nat} {w:World} {s:SV} {r:RowOb} (h:RowOk U base w s r) (ho:r.own=true):∀k,s.v.ownBlock=some k->k<w.heap.size/\base<=k:=by
 intro k hk
 rcases h.cases with⟨_,h⟩ | ⟨_,h⟩ | ⟨_,h⟩
 ·exact adh (h.own ho) k hk
 ·obtain⟨g,ob,h1,h2,h3,h4⟩:=h.at'
  simp only[SV.v,h1,Value.ownBlock,bH] at hk
  subst hk
  exact⟨(fS.1 h3).1,h2⟩
 ·obtain⟨ins,_,h2,_⟩:=h.at'
  exact adh (h2 ho) k hk
theorem RowOk.mk_own {U:Env} {base:Nat} {w:World} {s:SV} {r:RowOb} (hk:r.kd=.sl) (h1:s.n=(r.l.R U).length) (h2:RowsIn r.ks (r.l.R U)) (h3:0<r.ks.length) (h4:w.ownsRow base r.ty r.ks.length s.v s.n (flat r.ks (r.l.R U))):RowOk U base w s r:=(SlOk.mk_own h1 h2 h3 h4).row hk
def NewZ (w w':World) (svs:List SV) (u:SV):Prop:=∀p∈u.z,w'.heap[p.1]? =some p.2/\isCl p.2=true/\w.heap.size<=p.1/\∀u'∈svs,u'.v.ownBlock≠some p.1
theorem NewZ.nil {w w':World} {svs:List SV} {u:SV} (h:u.z=[]):NewZ w w' svs u:=fun p hp=>by rw[h] at hp;cases hp
structure RetOk (res:List Sh) (tup:Bool) (w w':World) (X:List Dt) (v:Value):Prop where
 ext:Ext w w'
 rng:fu (res.flatMap (·.cks)) X
 svs:∃svs:List SV,svs.length=((res.flatMap (·.cks)).filter CK.isSl).length/\
     (∀(U:Env) v0 nid (j:J),eqs U X v0 0 (res.flatMap (·.cks))->(∀(i:Nat) u,svs[i]? =some u->j.s (nid+i)=some u)->(eK res tup v0 nid).den U j=some v)/\
     (∀(U:Env) v0,eqs U X v0 0 (res.flatMap (·.cks))->∀(i:Nat) u r,svs[i]? =some u->(bi v0 0 (res.flatMap (·.cks)))[i]? =some r->RowOk U w.heap.size w' u r)/\
     (∀(i i':Nat) u u' k,svs[i]? =some u->svs[i']? =some u'->u.v.ownBlock=some k->u'.v.ownBlock=some k->i=i')/\∀u∈svs,NewZ w w' svs u
def InOk (P:Program) (sp:Spec) (s:Sm) (ks:List CE) (ty:Nat):Prop:=
 ∀L,sp.pre s.key [.l L]->∃L',sp.F s.key [.l L]=[.l L']/\RowsIn ks L'/\∀base sv w,OwnRow w base ty ks sv L->
   (callFunc s.f #[sv.v]).run P w=.ok (.enter s.f #[sv.v]) w/\Calls P s.f #[sv.v] w fun e w'=>e=.returned (.tuple #[])/\OwnRow w' base ty ks sv L'/\w.grownBy w' sv.v.ownBlock
structure SmOk (P:Program) (sp:Spec) (s:Sm):Prop where
 calls:s.inp=none->∀xs vals w,kV w s.args xs vals->sp.pre s.key xs->sp.hw w->
   (∃v w',(callFunc s.f vals.toArray).run P w=.ok (.value v) w'/\RetOk s.res s.tup w w' (sp.F s.key xs) v)\/((callFunc s.f vals.toArray).run P w=.ok (.enter s.f vals.toArray) w/\Calls P s.f vals.toArray w fun e w'=>∃v,e=.returned v/\RetOk s.res s.tup w w' (sp.F s.key xs) v)
 inpl:∀ks ty,s.inp=some (ks,ty)->InOk P sp s ks ty
 rng:∀xs,aeQ s.args xs->sp.pre s.key xs->∀(U:Env) v0,eqs U (sp.F s.key xs) v0 0 s.ks->(∀(n:Nat) k,s.ks[n]? =some (.int k)->inK k (U.i (v0+n))=true)/\(∀(n:Nat) ks ty,s.ks[n]? =some (.sl ks ty)->RowsIn ks (U.l (v0+n)))
def Zin (j:J) (s:SV):Prop:=∀p∈s.z,j.g.z p.1=some p.2/\isCl p.2=true
theorem Zin.nil {j:J} {s:SV} (h:s.z=[]):Zin j s:=fun p hp=>by rw[h] at hp;cases hp
def PtIs (j:J) (ks:List CE) (row:List Int):Option Addr->Prop
 | none=>row.getD 0 0=0
 | some a=>row.getD 0 0=1/\(∃b o,a=⟨b,o,none⟩)/\∃vs ty,j.g.z a.block=some (.cells vs ty (0,0))/\∀(c:Nat) v,(rowV ks row)[c+1]? =some v->vs[a.off+c]? =some v
def TbAt (U:Env) (j:J) (w:World) (s:SV) (r:RowOb):Prop:=
 ∃(g:Nat) (ps:List (Option Addr)) (ty:Nat),s.a=some ⟨g,0,none⟩/\w.heap[g]? =some (.cells (ps.map Value.pointer).toArray ty (0,0))/\ps.length=(r.l.R U).length/\
  ∀(i:Nat) row p,(r.l.R U)[i]? =some row->ps[i]? =some p->PtIs j r.ks row p
theorem PtIs.mono {j j':J} {ks:List CE} {row:List Int} {p:Option Addr} (h:PtIs j ks row p) (hz:∀k o,isCl o=true->j.g.z k=some o->j'.g.z k=some o):PtIs j' ks row p:=by
 cases p with
 | none=>exact h
 | some a=>
   obtain⟨h1,h2,vs,ty,h3,h4⟩:=h
   exact⟨h1,h2,vs,ty,hz _ _ rfl h3,h4⟩
theorem TbAt.mono {U U':Env} {j j':J} {w w':World} {s:SV} {r r':RowOb} (h:TbAt U j w s r) (hl:r'.l.R U'=r.l.R U) (hk:r'.ks=r.ks) (hz:∀k o,isCl o=true->j.g.z k=some o->j'.g.z k=some o) (hw:∀g,s.a=some ⟨g,0,none⟩->w'.heap[g]? =w.heap[g]?):TbAt U' j' w' s r':=by
 obtain⟨g,ps,ty,h1,h2,h3,h4⟩:=h
 refine⟨g,ps,ty,h1,by rw[hw g h1];exact h2,by rw[hl];exact h3,fun i row p hr hp=> ?_⟩
 rw[hk]
 exact(h4 i row p (by rw[<-hl];exact hr) hp).mono hz
def RrOk (U:Env) (base:Nat) (j:J) (w:World) (rw:Nat->Option RowOb) (rr:List Nat):Prop:=
 ∀id∈rr,∀r,rw id=some r->∃s,j.s id=some s/\RowOk U base w s r/\Zin j s/\(∀p∈s.z,w.heap[p.1]? =some p.2)/\(r.kd=.tab->TbAt U j w s r/\∀k o,j.g.z k=some o->w.heap[k]? =some o)
theorem EiOk.told {z:List (Nat×Obj)} {row:List Int} {x:SV} {w:World} (h:EiOk z row x) (hz:∀p∈z,w.heap[p.1]? =some p.2/\isCl p.2=true):EvIn w row x:=
 ⟨h.n,h.most,h.rest,h.rd w (fun p hp=>(hz p hp).1),fun k hk=>let⟨o,ho⟩:=h.blk k hk;⟨o,hz _ ho⟩⟩
theorem EvOk.told {U:Env} {base:Nat} {j:J} {w:World} {s:SV} {r:RowOb} (h:EvOk U base w s r) (hz:Zin j s/\∀p∈s.z,w.heap[p.1]? =some p.2):∃ins:List SV,ins.length=(r.l.R U).length/\RdRow w 3 s (tB (r.l.R U) ins)/\∀(i:Nat) row x,(r.l.R U)[i]? =some row->ins[i]? =some x->EvIn w row x:=by
 obtain⟨ins,h1,_,h2,h3⟩:=h.at'
 exact⟨ins,h1,h2,fun i row x hr hx=>(h3 i row x hr hx).told (fun p hp=>⟨hz.2 p hp,(hz.1 p hp).2⟩)⟩
theorem RdRow.nil {w:World} {n:Nat}:RdRow w n ⟨none,0,0,[]⟩ []:=⟨by simp,Nat.le_refl _,by simp[maxLen],fun _=>⟨rfl,rfl⟩,fun a ha=>(by cases ha)⟩
theorem TRow.nil {w:World} {ks:List CE}:TRow w ks ⟨none,0,0,[]⟩ []:=by
 unfold TRow
 split
 ·exact⟨[],rfl,.nil,fun i row x h=>by simp at h⟩
 ·exact .nil
theorem RrOk.sl {U:Env} {base:Nat} {j:J} {w:World} {vw:Vw} {rr:List Nat} (h:RrOk U base j w vw.rw rr) (id:Nat) (hid:id∈rr) (r:RowOb) (hr:vw.sw id=some r):∃s,j.s id=some s/\SlOk U base w s r:=by
 obtain⟨h1,h2⟩:=Vw.sw_some hr
 obtain⟨s,h3,h4,_⟩:=h id hid r h1
 exact⟨s,h3,h4.1 h2⟩
def hZ (cs:List C) (o:Nat):Bool:=(cs.getD o .undef).solid
def FbOk (hw:World->Prop) (U:Env) (j:J) (w:World) (fb:Nat->Option (List C)):Prop:=hw w/\
 ∀b cs,fb b=some cs->∃k vs,j.f b=some k/\k<w.heap.size/\denL U j cs=some vs/\∀o v,vs[o]? =some v->hZ cs o=true->w.cell? ⟨k,o,none⟩=some v
def J.putS (j:J) (id:Nat) (s:SV):J:={j with s:=fun b=>if b=id then some s else j.s b}
def Gh.setz (g:Gh) (l:Nat) (x:Option Obj):Gh:=⟨g.y,fun k=>if k=l then x else g.z k⟩
def J.setz (j:J) (l:Nat) (x:Option Obj):J:={j with g:=j.g.setz l x}
def J.addz (j:J):List (Nat×Obj)->J
 | []=>j
 | p::_=>j.setz p.1 (some p.2)
def Gh.setzs (g:Gh) (l:List (Nat×Obj)):Gh:=⟨g.y,fun k=>match l.find? (fun p=>Nat.beq p.1 k) with | some p=>some p.2 | none=>g.z k⟩
def J.addzs (j:J):List (Nat×Obj)->J
 | []=>j
 | l=>{j with g:=j.g.setzs l}
theorem amj (j:J) (l:List (Nat×Obj)):(j.addzs l).s=j.s:=by cases l<;>rfl
theorem aeU (j:J) (l:List (Nat×Obj)):(j.addzs l).s=j.s/\(j.addzs l).b=j.b/\(j.addzs l).f=j.f/\(j.addzs l).g.y=j.g.y:=by cases l<;>exact⟨rfl,rfl,rfl,rfl⟩
theorem vD (j:J) (l:List (Nat×Obj)) (k:Nat):(j.addzs l).g.z k=match l.find? (fun p=>Nat.beq p.1 k) with | some p=>some p.2 | none=>j.g.z k:=by cases l<;>rfl
theorem ov {j:J} {l:List (Nat×Obj)} {k:Nat} {o:Obj} (h:(j.addzs l).g.z k=some o):(k,o)∈l\/((∀p∈l,p.1≠k)/\j.g.z k=some o):=by
 rw[vD] at h
 split at h
 ·rename_i p hp
  cases h
  have h1:=List.mem_of_find?_eq_some hp
  have h2:p.1=k:=thm1 (by simpa using List.find?_some hp)
  rw[<-h2]
  exact .inl h1
 ·rename_i hn
  refine .inr ⟨fun p hp e=> ?_,h⟩
  have:=List.find?_eq_none.1 hn p hp
  rw[e] at this
  simp at this
theorem gL {j:J} {l:List (Nat×Obj)} {k:Nat} (h:∀p∈l,p.1≠k):(j.addzs l).g.z k=j.g.z k:=by
 rw[vD]
 split
 ·rename_i p hp
  exact absurd (thm1 (n:=p.1) (m:=k) (by simpa using List.find?_some hp)) (h p (List.mem_of_find?_eq_some hp))
 ·rfl
theorem aeT {j:J} {l:List (Nat×Obj)} (hf:∀p∈l,∀q∈l,p.1=q.1->p.2=q.2) {p:Nat×Obj} (hp:p∈l):(j.addzs l).g.z p.1=some p.2:=by
 rw[vD]
 split
 ·rename_i q hq
  rw[hf q (List.mem_of_find?_eq_some hq) p hp (thm1 (n:=q.1) (m:=p.1) (by simpa using List.find?_some hq))]
 ·rename_i hn
  have:=List.find?_eq_none.1 hn p hp
  simp at this
def J.putL (j:J) (nid:Nat) (l:List SV):J:={j with s:=fun b=>if nid<=b then(match l[b-nid]? with | some u=>some u | none=>j.s b) else j.s b}
def Does (U:Env) (base nid:Nat) (eff:Eff) (j:J) (w:World) (j':J) (w':World):Prop:=
 match eff.al with
 | some (cs,ty)=>∃vs,denL U j cs=some vs/\w'=w.alloc (.cells vs.toArray ty)/\j'={j with b:=fun b=>if b=nid then some w.heap.size else j.b b}
 | none=>match eff.re with
   | .none=>j'=j/\∃w1,Ext w w1/\pw U j eff.wr w1 w'
   | .set id r=>j'=j/\∃s,j.s id=some s/\w.grownBy w' s.v.ownBlock/\RowOk U base w' s r/\r.kd≠.tab
   | .mk rs=>Ext w w'/\∃svs:List SV,svs.length=rs.length/\(∀(i:Nat) u r,svs[i]? =some u->rs[i]? =some r->RowOk U w.heap.size w' u r/\r.own=true/\(r.kd=.tab->∀jj,TbAt U jj w' u r))/\
    (∀(i i':Nat) u u' k,svs[i]? =some u->svs[i']? =some u'->u.v.ownBlock=some k->u'.v.ownBlock=some k->i=i')/\(∀u∈svs,NewZ w w' svs u)/\j'=(j.putL nid svs).addzs (svs.flatMap (·.z))
   | .app old r=>∃s s',j.s old=some s/\w.grownBy w' s.v.ownBlock/\RowOk U base w' s' r/\(s'.v.ownBlock=s.v.ownBlock\/s'.v.ownBlock=some w.heap.size)/\Zin j s'/\j'=j.putS nid s'/\r.kd≠.tab
   | .view old q r=>w'=w/\∃s s',j.s old=some s/\RowOk U base w s q/\RowOk U base w s' r/\(∀k,s'.blk false=some k->s.blk false=some k)/\Zin j s'/\j'=j.putS nid s'/\q.kd≠.tab/\r.kd≠.tab
   | .peek r=>w'=w/\∃s',RowOk U base w s' r/\(∀k,s'.blk false=some k->∃o,j.g.z k=some o/\isCl o=true)/\s'.z=[]/\j'=j.putS nid s'/\r.kd≠.tab
   | .frz old q r=>Ext w w'/\∃s s',j.s old=some s/\RowOk U base w s q/\RowOk U base w' s' r/\(∀k,s'.v.ownBlock=some k->w.heap.size<=k)/\s'.z.length<=1/\(∀p∈s'.z,w.heap[p.1]? =some p.2/\isCl p.2=true/\s.v.ownBlock=some p.1)/\j'=(j.putS nid s').addz s'.z/\q.kd≠.tab/\r.kd≠.tab
   | .tset old q tab r=>∃s st k o,j.s old=some s/\j.s tab=some st/\RowOk U base w s q/\RowOk U base w' st r/\s.v.ownBlock=some k/\w.heap[k]? =some o/\isCl o=true/\w.grownBy w' st.v.ownBlock/\j'=j.addz [(k,o)]/\TbAt U j' w' st r/\q.kd≠.tab
def OpOk (P:Program) (hw:World->Prop) (U:Env) (base:Nat) (vw:Vw) (o:Oper) (eff:Eff):Prop:=
 ∀(j:J) (a:Act) (w:World),base<=w.heap.size->(∀x∈o.op.operands.toList,∀v,vw.ev x=some v->v.den U j=some (a.eval x))->RdOk U j w vw.ld eff.rd->WrOk j w eff.wr->RrOk U base j w vw.rw eff.rr->FbOk hw U j w vw.fb->
  ∀(K:Act->World->Prop) (Q:Exit->Act->World->Prop),(∀v j' w',eff.val.den U j'=some v->Does U base vw.nid eff j w j' w'->K (a.put o.dst v) w')->o.wp P a w K Q
theorem fd {P:Program} {o:Oper} {a:Act} {w w':World} {v:Value} {K:Act->World->Prop} {Q:Exit->Act->World->Prop} (h:(execOp a.eval o).run P w=.ok (.value v) w') (hk:K (a.put o.dst v) w'):o.wp P a w K Q:=by
 unfold Oper.wp;rw[h];exact hk
theorem rx {P:Program} {o:Oper} {a:Act} {w w':World} {K:Act->World->Prop} {Q:Exit->Act->World->Prop} (h:(execOp a.eval o).run P w=.ok .skip w') (hk:K (a.put o.dst undef) w'):o.wp P a w K Q:=by
 unfold Oper.wp;rw[h];exact hk
section
variable {P:Program} {U:Env} {base:Nat} {vw:Vw} {ld:Nat->Nat->Option C} {o:Oper}
theorem OpOk.pure {hw:World->Prop} {v:V} {rd:List (Nat×Nat)} {rr:List Nat} (h:∀(j:J) (a:Act) (w:World),base<=w.heap.size->(∀x∈o.op.operands.toList,∀v,vw.ev x=some v->v.den U j=some (a.eval x))->RdOk U j w vw.ld rd->RrOk U base j w vw.rw rr->FbOk hw U j w vw.fb->
  ∃u,v.den U j=some u/\(execOp a.eval o).run P w=.ok (.value u) w):OpOk P hw U base vw o {val:=v,rd:=rd,rr:=rr}:=by
 intro j a w hb hev hrd _ hrr hfb K Q hK
 obtain⟨u,hu,hr⟩:=h j a w hb hev hrd hrr hfb
 exact fd hr (hK u j w hu ⟨rfl,w,Ext.refl w,rfl⟩)
theorem dK {j:J} {b k:Nat} (hj:j.b b=some k):∀(n o:Nat) (cs:List C),ir ld b o n=some cs->∀(w:World),RdOk U j w ld (dU b o n)->∀(a:Addr) (i:Nat) (acc:Array Value),(∀m,a.add (i+m)=⟨k,o+m,none⟩)->
  ∃vs,denL U j cs=some vs/\(loadCellsFrom a i n acc).run P w=.ok (acc++vs.toArray) w
 | 0,o,cs,h,w,hrd,a,i,acc,ha=>by
   cases h
   exact⟨[],rfl,by simp[loadCellsFrom]⟩
 | n+1,o,cs,h,w,hrd,a,i,acc,ha=>by
   simp only[ir] at h
   cases hc:ld b o with
   | none=>rw[hc] at h;cases h
   | some c=>
     cases hl:ir ld b (o+1) n with
     | none=>rw[hc,hl] at h;cases h
     | some l=>
       rw[hc,hl] at h;cases h
       obtain⟨k',v,hk',hv,hcell⟩:=hrd (b,o) (by simp[dU]) c hc
       simp only at hk' hcell
       rw[hj] at hk';cases hk'
       obtain⟨vs,h1,h2⟩:=dK hj n (o+1) l hl w (fun p hp=>hrd p (by simp[dU];exact .inr hp)) a (i+1) (acc.push v) (fun m=>by rw[Nat.add_assoc,Nat.add_comm 1 m,<-Nat.add_assoc,Nat.add_assoc,ha (m+1)];congr 1;omega)
       refine⟨v::vs,by simp[denL,hv,h1],?_⟩
       have ha0:=ha 0
       simp only[Nat.add_zero] at ha0
       simp only[loadCellsFrom,ha0,Sem.run_bind,load,Sem.run,hcell,Result.andThen_ok,h2]
       simp
theorem ade {cx:Cx} (hT:∀t i,(t,i)∈cx.ty->TIok P t i) {ft:Nat} {cs:List C} {off:Nat} {v:V} (h:yS cx ft cs off=some v) {j:J} {vs:List Value} (hvs:denL U j cs=some vs) (w:World):
  ∃u,v.den U j=some u/\(part ft vs.toArray off).run P w=.ok u w:=by
 unfold yS at h
 split at h
 ·rename_i i hi
  have ht:=hT _ _ (ah hi)
  split at h
  ·rename_i hagg
   split at h
   ·rename_i hlen
    cases h
    have h1:=kJ (iC hvs off) i.size
    refine⟨.agg ((vs.drop off).take i.size).toArray,by simp only[V.den,h1,Option.map_some],?_⟩
    have h2:vs.toArray.extract off (off+i.size)=((vs.drop off).take i.size).toArray:=by
     simp[List.extract_eq_take_drop]
    simp only[part,Sem.run_bind,ht.agg,hagg,Result.andThen_ok,if_true,ht.size,h2,Sem.run_pure]
   ·cases h
  ·rename_i hagg
   rw[thm4] at h
   obtain⟨c,hc,rfl⟩:=h
   obtain⟨u,hu,hd⟩:=dt hvs off c hc
   refine⟨u,hd,?_⟩
   have h3:vs.toArray[off]? =some u:=by simpa using hu
   simp only[part,Sem.run_bind,ht.agg,hagg,Result.andThen_ok,h3]
   simp
 ·cases h
end
section
variable {P:Program} {sp:Spec} {U:Env} {G:Env->E->Prop} {I:Nat->List Dt->Prop} {base:Nat} {cx:Cx} {vw:Vw} {o:Oper} {k:Eff->Kw->Tr}
def Sound (P:Program) (sp:Spec) (U:Env) (G:Env->E->Prop) (I:Nat->List Dt->Prop) (base:Nat) (cx:Cx) (vw:Vw) (o:Oper) (k:Eff->Kw->Tr) (kw:Kw):Prop:=
 ∃eff kw',(k eff kw').holds sp G U I/\Good sp cx.sm U kw'/\KwGe kw' kw/\OpOk P sp.hw U base vw o eff
theorem Sound.lv {kw kw':Kw} (h:Sound P sp U G I base cx vw o k kw') (hl:KwGe kw' kw):Sound P sp U G I base cx vw o k kw:=by
 obtain⟨eff,kw1,h1,h2,h3,h4⟩:=h
 exact⟨eff,kw1,h1,h2,h3.trans hl,h4⟩
theorem vU {x:Operand} {kw:Kw} (hop:o.op=.move x\/o.op=.assign x) {v:V} (hv:vw.ev x=some v) (h:(k {val:=v} kw).holds sp G U I) (hg:Good sp cx.sm U kw):Sound P sp U G I base cx vw o k kw:=by
 refine⟨_,kw,h,hg,.refl _,OpOk.pure fun j a w _ hev _ _ _=>⟨a.eval x,?_,?_⟩⟩
 ·rcases hop with hop | hop<;>exact hev x (by simp[hop,Op.operands]) v hv
 ·rcases hop with hop | hop<;>simp[execOp,hop]
theorem abl (hT:∀t i,(t,i)∈cx.ty->TIok P t i) {t:Nat} {kw:Kw} (hop:o.op=.alloc t) {i:TI} (hi:av t cx.ty=some i) (h:(k {val:=.one (.ptr vw.nid 0),al:=some (i.zero,t)} kw).holds sp G U I) (hg:Good sp cx.sm U kw):
  Sound P sp U G I base cx vw o k kw:=by
 refine⟨_,kw,h,hg,.refl _,fun j a w _ hev hrd hwr _ _ K Q hK=> ?_⟩
 obtain⟨z,hz,hd⟩:=(hT _ _ (ah hi)).zero
 refine fd (w':=w.alloc (.cells z.cells t)) (v:=.pointer (some ⟨w.heap.size,0,none⟩)) ?_ (hK _ {j with b:=fun b=>if b=vw.nid then some w.heap.size else j.b b} _ ?_ ?_)
 ·simp[execOp,hop,Instr.alloc,Sem.run_bind,hz,newVar,newRow,newObj,Sem.run]
 ·simp[V.den,C.den]
 ·exact⟨z.cells.toList,hd U j,by simp,rfl⟩
theorem akq {t:Nat} {x:Operand} {kw:Kw} (hop:o.op=.box t x) {v:V} (hv:vw.ev x=some v) (hf:v.flat=true) (h:(k {val:=.one (.ptr vw.nid 0),al:=some (v.cells,t)} kw).holds sp G U I) (hg:Good sp cx.sm U kw):
  Sound P sp U G I base cx vw o k kw:=by
 refine⟨_,kw,h,hg,.refl _,fun j a w _ hev hrd hwr _ _ K Q hK=> ?_⟩
 have hd:=V.cells_ok (hev x (by simp[hop,Op.operands]) v hv) hf
 refine fd (w':=w.alloc (.cells (a.eval x).cells t)) (v:=.pointer (some ⟨w.heap.size,0,none⟩)) ?_ (hK _ {j with b:=fun b=>if b=vw.nid then some w.heap.size else j.b b} _ ?_ ?_)
 ·simp[execOp,hop,Instr.box,Sem.run_bind,newVar,newRow,newObj,Sem.run]
 ·simp[V.den,C.den]
 ·exact⟨_,hd,by simp,rfl⟩
theorem kr {j:J} {b off:Nat} {v:Value} (h:(V.one (.ptr b off)).den U j=some v):∃kk,j.b b=some kk/\v=.pointer (some ⟨kk,off,none⟩):=by
 simp only[V.den,C.den,thm4] at h
 obtain⟨kk,hk,rfl⟩:=h
 exact⟨kk,hk,rfl⟩
theorem bA (kk off m:Nat):(⟨kk,off,none⟩:Addr).add m=⟨kk,off+m,none⟩:=by
 unfold Addr.add
 split
 ·rename_i h;subst h;rfl
 ·rfl
theorem rP (hT:∀t i,(t,i)∈cx.ty->TIok P t i) {t:Nat} {x:Operand} {kw:Kw} (hop:o.op=.load t x) {b off:Nat} (hx:vw.ev x=some (.one (.ptr b off))) {i:TI} (hi:av t cx.ty=some i) (hagg:i.agg=true) {cs:List C} (hcs:ir vw.ld b off i.size=some cs)
  (h:(k {val:=.agg cs,rd:=dU b off i.size} kw).holds sp G U I) (hg:Good sp cx.sm U kw):Sound P sp U G I base cx vw o k kw:=by
 refine⟨_,kw,h,hg,.refl _,OpOk.pure fun j a w _ hev hrd _ _=> ?_⟩
 have ht:=hT _ _ (ah hi)
 obtain⟨kk,hk,he⟩:=kr (hev x (by simp[hop,Op.operands]) _ hx)
 obtain⟨vs,h1,h2⟩:=dK (P:=P) hk i.size off cs hcs w hrd ⟨kk,off,none⟩ 0 #[] (fun m=>by rw[bA];simp)
 refine⟨.agg vs.toArray,by simp only[V.den,h1,Option.map_some],?_⟩
 simp[execOp,hop,he,Instr.loadAt,Instr.sureAddr,Sem.run_bind,loadVar,ht.agg,hagg,ht.size,loadCells,h2]
theorem rQ (hT:∀t i,(t,i)∈cx.ty->TIok P t i) {t:Nat} {x:Operand} {kw:Kw} (hop:o.op=.load t x) {b off:Nat} (hx:vw.ev x=some (.one (.ptr b off))) {i:TI} (hi:av t cx.ty=some i) (hagg:¬i.agg=true) {c:C} (hc:vw.ld b off=some c)
  (h:(k {val:=.one c,rd:=[(b,off)]} kw).holds sp G U I) (hg:Good sp cx.sm U kw):Sound P sp U G I base cx vw o k kw:=by
 refine⟨_,kw,h,hg,.refl _,OpOk.pure fun j a w _ hev hrd _ _=> ?_⟩
 have ht:=hT _ _ (ah hi)
 obtain⟨kk,hk,he⟩:=kr (hev x (by simp[hop,Op.operands]) _ hx)
 obtain⟨k',v,hk',hv,hcell⟩:=hrd (b,off) (by simp) c hc
 simp only at hk' hcell
 rw[hk] at hk';cases hk'
 have hagg':i.agg=false:=by simpa using hagg
 refine⟨v,hv,?_⟩
 simp[execOp,hop,he,Instr.loadAt,Instr.sureAddr,Sem.run_bind,loadVar,ht.agg,hagg',load,Sem.run,hcell]
theorem ej {j:J} {b kk:Nat} (hj:j.b b=some kk) (a:Addr):∀(cs:List C) (off i:Nat) (vs:List Value) (w:World),(∀m,a.add (i+m)=⟨kk,off+m,none⟩)->denL U j cs=some vs->cs.all C.solid=true->WrOk j w (eB b off cs)->
  ∃w',pw U j (eB b off cs) w w'/\(storeCells a vs i).run P w=.ok () w'
 | [],off,i,vs,w,ha,hd,hs,hw=>by
   cases hd
   exact⟨w,rfl,by simp[storeCells]⟩
 | c::cs,off,i,vs,w,ha,hd,hs,hw=>by
   simp only[denL] at hd
   cases hc:c.den U j with
   | none=>rw[hc] at hd;cases hd
   | some v=>
     cases hl:denL U j cs with
     | none=>rw[hc,hl] at hd;cases hd
     | some l=>
       rw[hc,hl] at hd;cases hd
       simp only[List.all_cons,thm0] at hs
       obtain⟨k',u,hk',hu,hfr⟩:=hw (b,off,c) (by simp[eB])
       simp only at hk' hu hfr
       rw[hj] at hk';cases hk'
       have hw':WrOk j (w.setCell ⟨kk,off,none⟩ v) (eB b (off+1) cs):=by
        intro p hp
        obtain⟨k2,u2,hk2,hu2,hf2⟩:=hw p (by simp[eB];exact .inr hp)
        by_cases he:(⟨k2,p.2.1,none⟩:Addr)=⟨kk,off,none⟩
        ·refine⟨k2,v,hk2,?_,?_⟩
         ·rw[he];exact World.cell?_setCell_same _ _ _ (by rw[<-he];exact hu2)
         ·rw[World.frozen?_setCell];exact hf2
        ·refine⟨k2,u2,hk2,?_,?_⟩
         ·rw[World.cell?_setCell_other _ _ _ _ (fun e=>he e.symm)];exact hu2
         ·rw[World.frozen?_setCell];exact hf2
       obtain⟨w',h1,h2⟩:=ej hj a cs (off+1) (i+1) l (w.setCell ⟨kk,off,none⟩ v) (fun m=>by rw[Nat.add_assoc,Nat.add_comm 1 m,ha (m+1)];congr 1;omega) hl hs.2 hw'
       refine⟨w',⟨kk,v,hj,hc,h1⟩,?_⟩
       have ha0:=ha 0
       simp only[Nat.add_zero] at ha0
       simp only[storeCells,ha0,Sem.run_bind,run_store P w _ v _ (C.solid_ok hc hs.1),hu,hfr,Result.andThen_ok,Bool.false_eq_true,if_false]
       exact h2
theorem aba (hT:∀t i,(t,i)∈cx.ty->TIok P t i) {t:Nat} {x y:Operand} {kw:Kw} (hop:o.op=.store t x y) {b off:Nat} (hx:vw.ev x=some (.one (.ptr b off))) {v:V} (hy:vw.ev y=some v) {i:TI} (hi:av t cx.ty=some i)
  (hf:v.flat=true) (hn:Nat.beq v.cells.length i.size=true) (hs:v.cells.all C.solid=true) (h:(k {val:=.one .undef,wr:=eB b off v.cells} kw).holds sp G U I) (hg:Good sp cx.sm U kw):Sound P sp U G I base cx vw o k kw:=by
 refine⟨_,kw,h,hg,.refl _,fun j a w _ hev hrd hwr _ _ K Q hK=> ?_⟩
 have ht:=hT _ _ (ah hi)
 obtain⟨kk,hk,he⟩:=kr (hev x (by simp[hop,Op.operands]) _ hx)
 have hd:=V.cells_ok (hev y (by simp[hop,Op.operands]) v hy) hf
 obtain⟨w',h1,h2⟩:=ej (P:=P) hk ⟨kk,off,none⟩ v.cells off 0 _ w (fun m=>by rw[bA];simp) hd hs hwr
 have hsz:(a.eval y).cells.size=i.size:=by
  have:=aW hd
  rw[Array.length_toList,thm1 hn] at this
  exact this
 refine rx (w':=w') ?_ (hK _ j w' rfl ⟨rfl,w,Ext.refl w,h1⟩)
 simp[execOp,hop,he,Instr.storeAt,Instr.sureAddr,Sem.run_bind,storeVar,ht.size,hsz,h2]
theorem ac8 {j:J} {c:C} {v:Value} (hc:(∃b off,c=.ptr b off)\/(∃b off,c=.fp b off)\/(∃id esz e off,c=.ep id esz e off)) (h:(V.one c).den U j=some v):∃a,v=.pointer (some a):=by
 rcases hc with⟨b,off,rfl⟩ | ⟨b,off,rfl⟩ | ⟨id,esz,e,off,rfl⟩
 ·simp only[V.den,C.den,thm4] at h
  obtain⟨kk,_,rfl⟩:=h
  exact⟨_,rfl⟩
 ·simp only[V.den,C.den,thm4] at h
  obtain⟨kk,_,rfl⟩:=h
  exact⟨_,rfl⟩
 ·simp only[V.den,C.den,cz,SV.elem,thm4] at h
  obtain⟨s,_,a,_,rfl⟩:=h
  exact⟨_,rfl⟩
theorem fH {x:Operand} {kw:Kw} (hop:o.op=.nilCheck x) {c:C} (hx:vw.ev x=some (.one c)) (hc:((∃b off,c=.ptr b off)\/(∃b off,c=.fp b off)\/(∃id esz e off,c=.ep id esz e off))\/∃g,c=.fn g) (h:(k {val:=.one c} kw).holds sp G U I) (hg:Good sp cx.sm U kw):Sound P sp U G I base cx vw o k kw:=by
 refine⟨_,kw,h,hg,.refl _,OpOk.pure fun j a w _ hev _ _ _=>⟨a.eval x,hev x (by simp[hop,Op.operands]) _ hx,?_⟩⟩
 have hd:=hev x (by simp[hop,Op.operands]) _ hx
 rcases hc with hc | ⟨g,rfl⟩
 ·obtain⟨a',he⟩:=ac8 hc hd
  simp[execOp,hop,he]
 ·have he:a.eval x=.func (.func g) #[] #[]:=by
   exact(Option.some.inj hd).symm
  simp[execOp,hop,he]
theorem pQ {x:Operand} {kw:Kw} (hop:o.op=.nilCheck x) {g:Nat} {fs ps:List (Option (Bool×Nat×Nat))} (hx:vw.ev x=some (.one (.clo g fs ps))) (h:(k {val:=.one (.clo g fs ps)} kw).holds sp G U I) (hg:Good sp cx.sm U kw):Sound P sp U G I base cx vw o k kw:=by
 refine⟨_,kw,h,hg,.refl _,OpOk.pure fun j a w _ hev _ _ _=>⟨a.eval x,hev x (by simp[hop,Op.operands]) _ hx,?_⟩⟩
 have hd:=hev x (by simp[hop,Op.operands]) _ hx
 obtain⟨y,z,_,_,he⟩:=fB (show cloV g (em j fs) (em j ps)=some (a.eval x) from hd)
 simp[execOp,hop,he]
theorem vA {ev:Operand->Option V} {j:J} {a:Act}:∀{l:List Operand} {cs:List (Option (Bool×Nat×Nat))},capE ev l=some cs->(∀x∈l,∀v,ev x=some v->v.den U j=some (a.eval x))->em j cs=some (l.map a.eval)
 | [],cs,h,_=>by cases h;rfl
 | x::l,cs,h,hev=>by
   have tail:=fun {ds} (hd:capE ev l=some ds)=>vA (j:=j) (a:=a) hd (fun y hy=>hev y (dk _ hy))
   simp only[capE] at h
   split at h
   ·rename_i b o ds hx hl
    cases h
    have h1:=hev x cd _ hx
    simp only[V.den,C.den] at h1
    simp only[em,ptrV,List.map_cons,h1,tail hl]
   ·rename_i b o ds hx hl
    cases h
    have h1:=hev x cd _ hx
    simp only[V.den,C.den] at h1
    simp only[em,ptrV,List.map_cons,h1,tail hl]
   ·rename_i ds hx hl
    cases h
    have h1:=hev x cd _ hx
    simp only[V.den,C.den] at h1
    simp only[em,ptrV,List.map_cons,h1,tail hl]
   ·cases h
theorem rO {g:Nat} {fs ps:Array Operand} {kw:Kw} (hop:o.op=.makeFunc (.func g) fs ps) {x y:List (Option (Bool×Nat×Nat))} (hx:capE vw.ev fs.toList=some x) (hy:capE vw.ev ps.toList=some y) (h:(k {val:=.one (.clo g x y)} kw).holds sp G U I) (hg:Good sp cx.sm U kw):Sound P sp U G I base cx vw o k kw:=by
 refine⟨_,kw,h,hg,.refl _,OpOk.pure fun j a w _ hev _ _ _=> ?_⟩
 have h1:=vA (U:=U) (j:=j) (a:=a) hx (fun z hz=>hev z (by simp[hop,Op.operands];exact .inl (by simpa using hz)))
 have h2:=vA (U:=U) (j:=j) (a:=a) hy (fun z hz=>hev z (by simp[hop,Op.operands];exact .inr (by simpa using hz)))
 refine⟨.func (.func g) (fs.map a.eval) (ps.map a.eval),?_,?_⟩
 ·simp only[V.den,C.den,h1,h2,cloV]
  have e:∀(q:Array Operand),(q.toList.map a.eval).toArray=q.map a.eval:=fun q=>by rw[<-Array.toList_map,Array.toArray_toList]
  rw[e,e]
 ·simp[execOp,hop,Instr.makeFunc,Sem.run_bind]
theorem dv {j:J} {kd:IntKind} {e:E} {v:Value} (h:(V.one (.int kd e)).den U j=some v):v=.int kd (e.I U):=by
 exact(Option.some.inj h).symm
theorem iM {j:J} {e:E} {v:Value} (h:(V.one (.bool e)).den U j=some v):v=.bool (e.B U):=by
 exact(Option.some.inj h).symm
theorem aa9 {op:UnOp} {t:Nat} {x:Operand} {kw:Kw} (hop:o.op=.unOp op t x) {v:V} (hv:vw.ev x=some v)
  (h:(match(generalizing:=false) op,v with
   | .not,.one (.bool e)=>k {val:=.one (.bool (gE e))} kw
   | .neg,.one (.int kd e)=>k {val:=.one (.int kd (kv .sub kd (.lit 0) e))} kw
   | .xor,.one (.int kd e)=>k {val:=.one (.int kd (kv .xor kd (.lit (if kd.signed then -1 else kd.max)) e))} kw
   | _,_=>.stuck 10).holds sp G U I) (hg:Good sp cx.sm U kw):Sound P sp U G I base cx vw o k kw:=by
 split at h
 ·rename_i e
  refine⟨_,kw,h,hg,.refl _,OpOk.pure fun j a w _ hev _ _ _=>⟨.bool (!e.B U),by simp[V.den,C.den,dM],?_⟩⟩
  rw[show execOp a.eval o=_ from by simp only[execOp,hop];rfl]
  simp[iM (hev x (by simp[hop,Op.operands]) _ hv),Op.unary,Sem.run_bind]
 ·rename_i kd e
  refine⟨_,kw,h,hg,.refl _,OpOk.pure fun j a w _ hev _ _ _=>⟨.int kd (kd.wrap (0-e.I U)),by simp[V.den,C.den,uT,opI,E.I],?_⟩⟩
  simp[execOp,hop,dv (hev x (by simp[hop,Op.operands]) _ hv),Op.unary,Op.intArith,Sem.run_bind]
 ·rename_i kd e
  refine⟨_,kw,h,hg,.refl _,OpOk.pure fun j a w _ hev _ _ _=>⟨.int kd (bits .xor kd (if kd.signed then -1 else kd.max) (e.I U)),by simp[V.den,C.den,uT,opI,E.I],?_⟩⟩
  simp[execOp,hop,dv (hev x (by simp[hop,Op.operands]) _ hv),Op.unary,intBits_xor,Sem.run_bind]
 ·cases h
theorem aag {kd:IntKind} {z:Int} (h:inK kd z=true):kd.wrap z=z:=by
 rw[bL] at h
 cases kd<;>simp only[IntKind.min,IntKind.max,IntKind.wrap,IntKind.bits,IntKind.signed] at * <;>simp at * <;>(try split)<;>omega
theorem afv (hT:∀t i,(t,i)∈cx.ty->TIok P t i) {s d:Nat} {x:Operand} {kw:Kw} (hop:o.op=.convert s d x) {k0:IntKind} {e:E} (hx:vw.ev x=some (.one (.int k0 e))) {i is:TI} (hi:av d cx.ty=some i) (his:av s cx.ty=some is) {kd:IntKind} (hk:i.ik=some kd)
  (h:(k {val:=.one (.int kd (if e.rng kw.vk kd then e else xw kd e))} kw).holds sp G U I) (hg:Good sp cx.sm U kw):Sound P sp U G I base cx vw o k kw:=by
 have hd:=(hT _ _ (ah hi)).ik kd hk
 obtain⟨ds,hs⟩:=(hT _ _ (ah his)).und
 refine⟨_,kw,h,hg,.refl _,OpOk.pure fun j a w _ hev _ _ _=>⟨.int kd (kd.wrap (e.I U)),?_,?_⟩⟩
 ·split
  ·rename_i hr
   simp[V.den,C.den,aag (E.rng_ok hg.vk e hr)]
  ·simp[V.den,C.den,agm]
 ·simp[execOp,hop,dv (hev x (by simp[hop,Op.operands]) _ hx),convert,run_underlying hs,run_underlying hd,Conv.intToInt,Sem.run_bind]
theorem eS (hT:∀t i,(t,i)∈cx.ty->TIok P t i) {s f:Nat} {x:Operand} {kw:Kw} (hop:o.op=.fieldAddr s x f) {c c':C} (hx:vw.ev x=some (.one c)) {i:TI} (hi:av s cx.ty=some i) {fo ft:Nat} (hf:i.fields[f]? =some (fo,ft))
  (hm:∀j v,c.den U j=some v->∃a,v=.pointer (some a)/\c'.den U j=some (.pointer (some (a.add fo)))) (h:(k {val:=.one c'} kw).holds sp G U I) (hg:Good sp cx.sm U kw):Sound P sp U G I base cx vw o k kw:=by
 have ht:=hT _ _ (ah hi)
 refine⟨_,kw,h,hg,.refl _,OpOk.pure fun j a w _ hev _ _ _=> ?_⟩
 obtain⟨p,he,hd⟩:=hm j _ (hev x (by simp[hop,Op.operands]) _ hx)
 refine⟨_,hd,?_⟩
 simp[execOp,hop,he,ht.fieldAt f fo ft hf,Sem.run_bind]
theorem db (a:Addr) (m n:Nat):(a.add m).add n=a.add (m+n):=by
 unfold Addr.add
 by_cases hm:m=0
 ·subst hm;simp
 ·by_cases hn:n=0
  ·subst hn;simp
  ·simp[hm,hn,Nat.add_assoc]
theorem sU {j:J} {b off fo:Nat} {v:Value} (h:(C.ptr b off).den U j=some v):∃a,v=.pointer (some a)/\(C.ptr b (off+fo)).den U j=some (.pointer (some (a.add fo))):=by
 simp only[C.den,thm4] at h
 obtain⟨kk,hk,rfl⟩:=h
 exact⟨_,rfl,by simp[C.den,hk,bA]⟩
theorem agl {j:J} {b off fo:Nat} {v:Value} (h:(C.fp b off).den U j=some v):∃a,v=.pointer (some a)/\(C.fp b (off+fo)).den U j=some (.pointer (some (a.add fo))):=by
 simp only[C.den,thm4] at h
 obtain⟨kk,hk,rfl⟩:=h
 exact⟨_,rfl,by simp[C.den,hk,bA]⟩
theorem xv {j:J} {id esz:Nat} {e:E} {off fo:Nat} {v:Value} (h:(C.ep id esz e off).den U j=some v):∃a,v=.pointer (some a)/\(C.ep id esz e (off+fo)).den U j=some (.pointer (some (a.add fo))):=by
 simp only[C.den,cz,SV.elem,thm4] at h
 obtain⟨s,hs,a,ha,rfl⟩:=h
 exact⟨_,rfl,by simp[C.den,hs,SV.elem,ha,db,Nat.add_assoc]⟩
theorem abg (hT:∀t i,(t,i)∈cx.ty->TIok P t i) {s f:Nat} {x:Operand} {kw:Kw} (hop:o.op=.field s x f) {cs:List C} (hx:vw.ev x=some (.agg cs)) {i:TI} (hi:av s cx.ty=some i) {fo ft:Nat} (hf:i.fields[f]? =some (fo,ft)) {v:V} (hp:yS cx ft cs fo=some v)
  (h:(k {val:=v} kw).holds sp G U I) (hg:Good sp cx.sm U kw):Sound P sp U G I base cx vw o k kw:=by
 have ht:=hT _ _ (ah hi)
 refine⟨_,kw,h,hg,.refl _,OpOk.pure fun j a w _ hev _ _ _=> ?_⟩
 have hd:=hev x (by simp[hop,Op.operands]) _ hx
 simp only[V.den,thm4] at hd
 obtain⟨vs,hvs,he⟩:=hd
 obtain⟨u,hu,hr⟩:=ade hT hp hvs w
 refine⟨u,hu,?_⟩
 simp[execOp,hop,<-he,ht.field f fo ft hf,hr,Sem.run_bind]
theorem mR {x:Operand} {n:Nat} {kw:Kw} (hop:o.op=.extract x n) {vs:List (Bool×List C)} (hx:vw.ev x=some (.tup vs)) {p:Bool×List C} (hp:vs[n]? =some p) {v:V} (hv:(∃cs,p=(true,cs)/\v=.agg cs)\/∃c,p=(false,[c])/\v=.one c)
  (h:(k {val:=v} kw).holds sp G U I) (hg:Good sp cx.sm U kw):Sound P sp U G I base cx vw o k kw:=by
 refine⟨_,kw,h,hg,.refl _,OpOk.pure fun j a w _ hev _ _ _=> ?_⟩
 have hd:=hev x (by simp[hop,Op.operands]) _ hx
 simp only[V.den,thm4] at hd
 obtain⟨us,hus,he⟩:=hd
 obtain⟨u,hu,hr⟩:=tI hus n p hp
 refine⟨u,?_,?_⟩
 ·rcases hv with⟨cs,rfl,rfl⟩ | ⟨c,rfl,rfl⟩<;>exact hr
 ·simp[execOp,hop,<-he,Instr.extract,hu,Sem.run_bind]
theorem iB {ev:Operand->Option V} {j:J} {a:Act}:∀{l:List Operand} {vs:List V},evL ev l=some vs->(∀x∈l,∀v,ev x=some v->v.den U j=some (a.eval x))->(∀(i:Nat) x u,vs[i]? =some x->(l.map a.eval)[i]? =some u->x.den U j=some u)/\(l.map a.eval).length=vs.length
 | [],vs,h,hev=>by cases h;exact⟨fun i x u hx=>by simp at hx,rfl⟩
 | x::l,vs,h,hev=>by
   simp only[evL] at h
   cases hc:ev x with
   | none=>rw[hc] at h;cases h
   | some v=>
     cases hl:evL ev l with
     | none=>rw[hc,hl] at h;cases h
     | some us=>
       rw[hc,hl] at h;cases h
       obtain⟨h1,h2⟩:=iB hl (fun y hy=>hev y (dk _ hy))
       refine⟨fun i y u hy hu=> ?_,by simp[h2]⟩
       cases i with
       | zero=>
         simp at hy hu
         subst hy hu
         exact hev x cd v hc
       | succ i=>exact h1 i y u (by simpa using hy) (by simpa using hu)
end
section
variable {P:Program} {sp:Spec} {U:Env} {G:Env->E->Prop} {I:Nat->List Dt->Prop} {base:Nat} {cx:Cx} {vw:Vw} {o:Oper} {k:Eff->Kw->Tr}
theorem abe {op:BinOp} {xt yt:Nat} {x y:Operand} {kw:Kw} (hop:o.op=.binOp op xt x y yt) {k1 k2:IntKind} {a b:E} (hx:vw.ev x=some (.one (.int k1 a))) (hy:vw.ev y=some (.one (.int k2 b))) {v:V} {u:Value} (hv:∀j,v.den U j=some u)
  (hr:∀w,(binOp op xt (.int k1 (a.I U)) (.int k2 (b.I U))).run P w=.ok u w) (h:(k {val:=v} kw).holds sp G U I) (hg:Good sp cx.sm U kw):Sound P sp U G I base cx vw o k kw:=by
 refine⟨_,kw,h,hg,.refl _,OpOk.pure fun j ac w _ hev _ _ _=>⟨u,hv j,?_⟩⟩
 have h1:=dv (hev x (by simp[hop,Op.operands]) _ hx)
 have h2:=dv (hev y (by simp[hop,Op.operands]) _ hy)
 have h3:=hr w
 simp[execOp,hop,h1,h2,eqGuard_at_int,h3,Sem.run_bind]
theorem rV {op:BinOp} {xt yt:Nat} {x y:Operand} {kw:Kw} (hop:o.op=.binOp op xt x y yt) {a b:E} (hx:vw.ev x=some (.one (.bool a))) (hy:vw.ev y=some (.one (.bool b))) {v:V} {u:Value} (hv:∀j,v.den U j=some u)
  (hr:∀w,(binOp op xt (.bool (a.B U)) (.bool (b.B U))).run P w=.ok u w) (h:(k {val:=v} kw).holds sp G U I) (hg:Good sp cx.sm U kw):Sound P sp U G I base cx vw o k kw:=by
 refine⟨_,kw,h,hg,.refl _,OpOk.pure fun j ac w _ hev _ _ _=>⟨u,hv j,?_⟩⟩
 have h1:=iM (hev x (by simp[hop,Op.operands]) _ hx)
 have h2:=iM (hev y (by simp[hop,Op.operands]) _ hy)
 have h3:=hr w
 simp[execOp,hop,h1,h2,eqGuard_at_bool,h3,Sem.run_bind]
theorem vV (hT:∀t i,(t,i)∈cx.ty->TIok P t i) {op:BinOp} (hne:op=.eql\/op=.neq) {xt yt:Nat} {x y:Operand} {kw:Kw} (hop:o.op=.binOp op xt x y yt) {cs ds:List C} (hx:vw.ev x=some (.agg cs)) (hy:vw.ev y=some (.agg ds)) {i:TI} (hi:av xt cx.ty=some i) (hq:i.eqok=true) (hk1:eM cs i.zero=true/\cs.all (C.rng kw.vk)=true) (hk2:eM ds i.zero=true/\ds.all (C.rng kw.vk)=true) {e:E} (he:qT (amq cx) cs ds=some e)
  (h:(k {val:=.one (.bool (if op=.eql then e else gE e))} kw).holds sp G U I) (hg:Good sp cx.sm U kw):Sound P sp U G I base cx vw o k kw:=by
 have ht:=hT _ _ (ah hi)
 refine⟨_,kw,h,hg,.refl _,OpOk.pure fun j ac w _ hev _ _ _=>⟨.bool (if op=.eql then e.B U else !e.B U),?_,?_⟩⟩
 ·rcases hne with rfl | rfl<;>simp[V.den,C.den,dM]
 ·obtain⟨vs,us,h1,h2,h3,h4⟩:=zg (U:=U) (j:=j) he
  have hdx:=hev x (by simp[hop,Op.operands]) _ hx
  have hdy:=hev y (by simp[hop,Op.operands]) _ hy
  simp only[V.den,h1,h2,Option.map_some,bH] at hdx hdy
  have h5:=ht.eq hq vs us (kC hg.vk hk1.1 hk1.2 h1) (kC hg.vk hk2.1 hk2.2 h2) w
  have h6:(eqGuard op xt x y (.agg vs.toArray) (.agg us.toArray)).run P w=.ok () w:=by
   rcases hne with rfl | rfl<;>simp[eqGuard,program,Sem.run_bind,Sem.run,ht.grd hq]
  rcases hne with rfl | rfl<;>simp[execOp,hop,<-hdx,<-hdy,h6,binOp,h5,h4,Sem.run_bind]
theorem pV {op:BinOp} (hne:op=.eql\/op=.neq) {xt yt:Nat} {x y:Operand} {kw:Kw} (hop:o.op=.binOp op xt x y yt) {c d:C} (hx:vw.ev x=some (.one c)) (hy:vw.ev y=some (.one d)) {X Y:Value} (hX:∀j,c.den U j=some X) (hY:∀j,d.den U j=some Y)
  (hXY:(∃f,X=.func f #[] #[])\/X=.nilFunc) (hYn:Y=.nilFunc) {r:Bool} (he:∀w,(Op.equal xt X Y).run P w=.ok r w) (h:(k {val:=.one (.bool (.tt (if op=.eql then r else !r)))} kw).holds sp G U I) (hg:Good sp cx.sm U kw):Sound P sp U G I base cx vw o k kw:=by
 refine⟨_,kw,h,hg,.refl _,OpOk.pure fun j ac w _ hev _ _ _=>⟨.bool (if op=.eql then r else !r),by simp[V.den,C.den,E.B],?_⟩⟩
 have hdx:(V.one c).den U j=some (ac.eval x):=hev x (by simp[hop,Op.operands]) _ hx
 have hdy:(V.one d).den U j=some (ac.eval y):=hev y (by simp[hop,Op.operands]) _ hy
 have h1:ac.eval x=X:=(Option.some.inj ((hX j).symm.trans hdx)).symm
 have h2:ac.eval y=Y:=(Option.some.inj ((hY j).symm.trans hdy)).symm
 have h3:=he w
 subst hYn
 rcases hXY with⟨f,rfl⟩ | rfl
 ·rcases hne with rfl | rfl<;>simp[execOp,hop,h1,h2,eqGuard,binOp,h3,Sem.run_bind]
 ·rcases hne with rfl | rfl<;>simp[execOp,hop,h1,h2,eqGuard,binOp,h3,Sem.run_bind]
theorem abi {op:BinOp} (hne:op=.eql\/op=.neq) {xt yt:Nat} {x y:Operand} {kw:Kw} (hop:o.op=.binOp op xt x y yt) {g:Nat} {fs ps:List (Option (Bool×Nat×Nat))} (hx:vw.ev x=some (.one (.clo g fs ps))) (hy:vw.ev y=some (.one .nf))
  (he:∀f a b w,(Op.equal xt (.func (.func f) a b) .nilFunc).run P w=.ok false w) (h:(k {val:=.one (.bool (.tt (if op=.eql then false else true)))} kw).holds sp G U I) (hg:Good sp cx.sm U kw):Sound P sp U G I base cx vw o k kw:=by
 refine⟨_,kw,h,hg,.refl _,OpOk.pure fun j ac w _ hev _ _ _=>⟨.bool (if op=.eql then false else true),by simp[V.den,C.den,E.B],?_⟩⟩
 have hdx:(V.one (.clo g fs ps)).den U j=some (ac.eval x):=hev x (by simp[hop,Op.operands]) _ hx
 have hdy:(V.one .nf).den U j=some (ac.eval y):=hev y (by simp[hop,Op.operands]) _ hy
 have h2:ac.eval y=.nilFunc:=(Option.some.inj hdy).symm
 have h1:∃f a b,ac.eval x=.func (.func f) a b:=by
  simp only[V.den,C.den,cloV] at hdx
  split at hdx
  ·exact⟨_,_,_,(Option.some.inj hdx).symm⟩
  ·cases hdx
 obtain⟨f,a,b,h1⟩:=h1
 have h3:=he f a b w
 rcases hne with rfl | rfl<;>simp[execOp,hop,h1,h2,eqGuard,binOp,h3,Sem.run_bind]
theorem yZ {kd:IntKind} {z:Int} (h:inK kd z=true) (hs:kd.signed=false):0<=z:=by
 rw[bL] at h
 cases kd<;>simp only[IntKind.min,IntKind.signed] at * <;>simp at * <;>omega
theorem nE {x y:Int}:(if y<x then y else x)=min x y/\(if y>x then y else x)=max x y:=by
 constructor<;>split<;>omega
theorem dp {op:BinOp} {xt yt:Nat} {x y:Operand} {kw:Kw} (hop:o.op=.binOp op xt x y yt) {k1 k2:IntKind} {a b:E} (hx:vw.ev x=some (.one (.int k1 a))) (hy:vw.ev y=some (.one (.int k2 b)))
  (hr:∀w,(binOp op xt (.int k1 (a.I U)) (.int k2 (b.I U))).run P w=.ok (.int k1 (opI op k1 (a.I U) (b.I U))) w) (h:(k {val:=.one (.int k1 (kv op k1 a b))} kw).holds sp G U I) (hg:Good sp cx.sm U kw):Sound P sp U G I base cx vw o k kw:=
 abe hop hx hy (fun j=>by simp[V.den,C.den,uT]) hr h hg
theorem kU {op:BinOp} {xt yt:Nat} {x y:Operand} {kw:Kw} (hop:o.op=.binOp op xt x y yt) {k1 k2:IntKind} {a b e:E} (hx:vw.ev x=some (.one (.int k1 a))) (hy:vw.ev y=some (.one (.int k2 b)))
  (hr:∀w,(binOp op xt (.int k1 (a.I U)) (.int k2 (b.I U))).run P w=.ok (.bool (e.B U)) w) (h:(k {val:=.one (.bool e)} kw).holds sp G U I) (hg:Good sp cx.sm U kw):Sound P sp U G I base cx vw o k kw:=
 abe hop hx hy (fun j=>by simp[V.den,C.den]) hr h hg
theorem bt (a b:Int):decide (a<=b) = !decide (b<a):=by
 by_cases h:a<=b<;>simp[h]<;>omega
theorem rN {op:BinOp} {xt yt:Nat} {x y:Operand} {kw:Kw} (hop:o.op=.binOp op xt x y yt) (ho:op=.shl\/op=.shr) {k1 k2:IntKind} {a b:E} (hx:vw.ev x=some (.one (.int k1 a))) (hy:vw.ev y=some (.one (.int k2 b)))
  (h:(if k2.signed then decK (mkLt b (.lit 0)) (fun neg kw=>if neg then .panic else k {val:=.one (.int k1 (kv op k1 a b))} kw) kw
   else if b.rng kw.vk k2 then k {val:=.one (.int k1 (kv op k1 a b))} kw else .stuck 11:Tr).holds sp G U I) (hg:Good sp cx.sm U kw):Sound P sp U G I base cx vw o k kw:=by
 have hr:¬b.I U<0->∀w,(binOp op xt (.int k1 (a.I U)) (.int k2 (b.I U))).run P w=.ok (.int k1 (opI op k1 (a.I U) (b.I U))) w:=by
  intro hb w
  rcases ho with rfl | rfl<;>simp[binOp,Op.shift,hb,opI]
 split at h
 ·obtain⟨kw',h1,g1,_,l1⟩:=bv _ _ _ h hg
  rw[fK] at h1
  split at h1
  ·exact h1.elim
  ·rename_i hb
   exact(dp hop hx hy (hr (fun hlt=>hb (eA hlt))) h1 g1).lv l1
 ·rename_i hsg
  split at h
  ·rename_i hrg
   have:=yZ (E.rng_ok hg.vk b hrg) (by simpa using hsg)
   exact dp hop hx hy (hr (by omega)) h hg
  ·exact h.elim
theorem abh {op:BinOp} {xt yt:Nat} {x y:Operand} {kw:Kw} (hop:o.op=.binOp op xt x y yt) (ho:op=.quo\/op=.rem) {k1:IntKind} {a b:E} (hx:vw.ev x=some (.one (.int k1 a))) (hy:vw.ev y=some (.one (.int k1 b)))
  (h:(decK (mkEq b (.lit 0)) (fun z kw=>if z then .panic else k {val:=.one (.int k1 (kv op k1 a b))} kw) kw:Tr).holds sp G U I) (hg:Good sp cx.sm U kw):Sound P sp U G I base cx vw o k kw:=by
 obtain⟨kw',h1,g1,_,l1⟩:=bv _ _ _ h hg
 rw[o4] at h1
 split at h1
 ·exact h1.elim
 ·rename_i hb
  have hb':¬b.I U=0:=by simpa[E.I] using hb
  refine(dp hop hx hy (fun w=> ?_) h1 g1).lv l1
  rcases ho with rfl | rfl<;>simp[opI,binOp_quo,binOp_rem,Op.intDiv,hb']
theorem akr (hT:∀t i,(t,i)∈cx.ty->TIok P t i) {op:BinOp} {xt yt:Nat} {x y:Operand} {kw:Kw} (hop:o.op=.binOp op xt x y yt) {v u:V} (hx:vw.ev x=some v) (hy:vw.ev y=some u) (h:(binK cx op xt v u kw k).holds sp G U I) (hg:Good sp cx.sm U kw):Sound P sp U G I base cx vw o k kw:=by
 unfold binK at h
 split at h
 ·split at h
  ·exact rN hop (.inl rfl) hx hy h hg
  ·exact rN hop (.inr rfl) hx hy h hg
  ·split at h
   ·rename_i hk
    have hk':=aD hk
    subst hk'
    split at h
    ·exact dp hop hx hy (fun w=>by simp[opI,binOp_add,Op.intArith]) h hg
    ·exact dp hop hx hy (fun w=>by simp[opI,binOp_sub,Op.intArith]) h hg
    ·exact dp hop hx hy (fun w=>by simp[opI,binOp_mul,Op.intArith]) h hg
    ·exact dp hop hx hy (fun w=>by simp[opI,binOp_and,intBits_and]) h hg
    ·exact dp hop hx hy (fun w=>by simp[opI,binOp_or,intBits_or]) h hg
    ·exact dp hop hx hy (fun w=>by simp[opI,binOp_xor,intBits_xor]) h hg
    ·exact dp hop hx hy (fun w=>by simp[opI,binOp_andNot,intBits_andNot]) h hg
    ·exact abh hop (.inl rfl) hx hy h hg
    ·exact abh hop (.inr rfl) hx hy h hg
    ·exact kU hop hx hy (fun w=>by simp[binOp_eql,o4]) h hg
    ·exact kU hop hx hy (fun w=>by simp[binOp_neq,dM,o4];rfl) h hg
    ·exact kU hop hx hy (fun w=>by simp[binOp_lss,fK]) h hg
    ·exact kU hop hx hy (fun w=>by simp only[binOp_leq,dM,fK,bt];rfl) h hg
    ·exact kU hop hx hy (fun w=>by simp[binOp_gtr,fK]) h hg
    ·exact kU hop hx hy (fun w=>by simp only[binOp_geq,dM,fK,ge_iff_le,bt];rfl) h hg
    ·exact h.elim
   ·exact h.elim
 ·rename_i a b
  have eqb:∀(i:TI),av xt cx.ty=some i->i.isb=true->∀w,(Op.equal xt (.bool (a.B U)) (.bool (b.B U))).run P w=.ok (a.B U==b.B U) w:=by
   intro i hi hb w
   have hu:=(hT _ _ (ah hi)).isb hb
   unfold Op.equal Op.maxDepth Op.equalIn
   simp[Sem.run_bind,run_underlying hu]
  split at h
  ·split at h
   ·rename_i i hi
    split at h
    ·rename_i hb
     have h3:=eqb i hi hb
     exact rV hop hx hy (u:=.bool (a.B U==b.B U)) (fun j=>by simp[V.den,C.den,qG]) (fun w=>by simp[binOp,h3,Sem.run_bind]) h hg
    ·exact h.elim
   ·exact h.elim
  ·split at h
   ·rename_i i hi
    split at h
    ·rename_i hb
     have h3:=eqb i hi hb
     exact rV hop hx hy (u:=.bool (!(a.B U==b.B U))) (fun j=>by simp[V.den,C.den,qG,dM]) (fun w=>by simp[binOp,h3,Sem.run_bind]) h hg
    ·exact h.elim
   ·exact h.elim
  ·exact h.elim
 ·split at h
  ·rename_i i hi
   split at h
   ·rename_i hf
    have ht:=(hT _ _ (ah hi)).fnt hf
    split at h
    ·exact abi (.inl rfl) hop hx hy (fun f a b w=>(ht f a b w).1) h hg
    ·exact abi (.inr rfl) hop hx hy (fun f a b w=>(ht f a b w).1) h hg
    ·exact h.elim
   ·exact h.elim
  ·exact h.elim
 ·rename_i g
  split at h
  ·rename_i i hi
   split at h
   ·rename_i hf
    have ht:=(hT _ _ (ah hi)).fnt hf
    split at h
    ·rename_i h0;cases h0
    ·rename_i h0;cases h0
    ·exact pV (.inl rfl) hop hx hy (fun _=>rfl) (fun _=>rfl) (.inl ⟨_,rfl⟩) rfl (fun w=>(ht g #[] #[] w).1) h hg
    ·exact pV (.inr rfl) hop hx hy (fun _=>rfl) (fun _=>rfl) (.inl ⟨_,rfl⟩) rfl (fun w=>(ht g #[] #[] w).1) h hg
    ·exact h.elim
   ·exact h.elim
  ·exact h.elim
 ·split at h
  ·rename_i i hi
   split at h
   ·rename_i hf
    have ht:=(hT _ _ (ah hi)).fnt hf
    split at h
    ·exact pV (.inl rfl) hop hx hy (fun _=>rfl) (fun _=>rfl) (.inr rfl) rfl (fun w=>(ht 0 #[] #[] w).2) h hg
    ·exact pV (.inr rfl) hop hx hy (fun _=>rfl) (fun _=>rfl) (.inr rfl) rfl (fun w=>(ht 0 #[] #[] w).2) h hg
    ·rename_i h0;exact absurd rfl h0
    ·rename_i h0;exact absurd rfl h0
    ·exact h.elim
   ·exact h.elim
  ·exact h.elim
 ·split at h
  ·rename_i i e hi he
   split at h
   ·rename_i hq
    simp only[thm0] at hq
    split at h
    ·exact vV hT (.inl rfl) hop hx hy hi hq.1 ⟨hq.2.1.1,rngs_ok _ kw.vk 0 rfl hq.2.1.2⟩ ⟨hq.2.2.1,rngs_ok _ kw.vk 0 rfl hq.2.2.2⟩ he h hg
    ·exact vV hT (.inr rfl) hop hx hy hi hq.1 ⟨hq.2.1.1,rngs_ok _ kw.vk 0 rfl hq.2.1.2⟩ ⟨hq.2.2.1,rngs_ok _ kw.vk 0 rfl hq.2.2.2⟩ he h hg
    ·exact h.elim
   ·exact h.elim
  ·exact h.elim
 ·exact h.elim
end
end Go.Proofs.YtfkhblmeioiciaaGreatDoor
