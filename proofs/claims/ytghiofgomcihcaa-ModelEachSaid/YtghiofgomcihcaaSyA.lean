import Derived.Test.YtghiofgomcihcaaLib
import Derived.Maps.AppendAt
set_option linter.unusedVariables false
set_option linter.unusedSimpArgs false
namespace Go.Proofs.Ytghiofgomcihcaa
open Go.RowKit
abbrev CE:=Option IntKind
inductive E where
 | lit (z:Int)
 | var (n:Nat)
 | bin (op:BinOp) (k:IntKind) (a b:E)
 | conv (k:IntKind) (a:E)
 | mn (a b:E)
 | mx (a b:E)
 | len (a:E)
 | get (a i:E) (c:Nat)
 | nil
 | cons (a t:E)
 | consb (b t:E)
 | consl (l t:E)
 | tt (b:Bool)
 | bvar (n:Nat)
 | lt (a b:E)
 | eq (a b:E)
 | not (a:E)
 | and (a b:E)
 | beq (a b:E)
 | getb (a i:E) (c:Nat)
 | lvar (n:Nat)
 | lnil
 | lset (a i:E) (c:Nat) (x:E)
 | lsetb (a i:E) (c:Nat) (x:E)
 | lapp (a r:E)
 | lcat (a b:E)
 | lrep (n r:E)
 | ltake (a n:E)
 | ldrop (a n:E)
 | mix (l key:E)
 | lput (l i r:E)
 | nth (i l:E)
 | ite (c a b:E)
 | leq (a b:E)
 deriving Repr,Inhabited
def zH:BinOp→BinOp→Bool
 | .add,.add | .sub,.sub | .mul,.mul | .quo,.quo | .rem,.rem | .and,.and | .or,.or | .xor,.xor | .shl,.shl | .shr,.shr | .andNot,.andNot=>true
 | _,_=>false
def aR:IntKind→IntKind→Bool
 | .i8,.i8 | .i16,.i16 | .i32,.i32 | .i64,.i64 | .u8,.u8 | .u16,.u16 | .u32,.u32 | .u64,.u64=>true
 | _,_=>false
theorem wo {a b:BinOp} (h:zH a b=true):a=b:=by cases a<;>cases b<;>first | rfl | cases h
theorem ao {a b:IntKind} (h:aR a b=true):a=b:=by cases a<;>cases b<;>first | rfl | cases h
def dG:Int→Int→Bool
 | .ofNat a,.ofNat b=>Nat.beq a b
 | .negSucc a,.negSucc b=>Nat.beq a b
 | _,_=>false
theorem bH {a b:Int} (h:dG a b=true):a=b:=by
 cases a<;>cases b<;>simp[dG] at h<;>simp[h]
theorem tJ {a b:Int}:dG a b=(a==b):=by
 cases h:dG a b with
 | true=>rw[bH h]; simp
 | false=>
   symm
   rw[beq_eq_false_iff_ne]
   rintro rfl
   cases a<;>simp[dG] at h
def E.same:E→E→Bool
 | .lit a,x=>match x with | .lit b=>dG a b | _=>false
 | .var a,x=>match x with | .var b=>Nat.beq a b | _=>false
 | .bin o k a b,x=>match x with | .bin o' k' a' b'=>zH o o'&&(aR k k'&&(E.same a a'&&E.same b b')) | _=>false
 | .conv k a,x=>match x with | .conv k' a'=>aR k k'&&E.same a a' | _=>false
 | .mn a b,x=>match x with | .mn a' b'=>E.same a a'&&E.same b b' | _=>false
 | .mx a b,x=>match x with | .mx a' b'=>E.same a a'&&E.same b b' | _=>false
 | .len a,x=>match x with | .len a'=>E.same a a' | _=>false
 | .get a i c,x=>match x with | .get a' i' c'=>Nat.beq c c'&&(E.same a a'&&E.same i i') | _=>false
 | .nil,x=>match x with | .nil=>true | _=>false
 | .cons a b,x=>match x with | .cons a' b'=>E.same a a'&&E.same b b' | _=>false
 | .consb a b,x=>match x with | .consb a' b'=>E.same a a'&&E.same b b' | _=>false
 | .consl a b,x=>match x with | .consl a' b'=>E.same a a'&&E.same b b' | _=>false
 | .tt a,x=>match x with | .tt b=>a==b | _=>false
 | .bvar a,x=>match x with | .bvar b=>Nat.beq a b | _=>false
 | .lt a b,x=>match x with | .lt a' b'=>E.same a a'&&E.same b b' | _=>false
 | .eq a b,x=>match x with | .eq a' b'=>E.same a a'&&E.same b b' | _=>false
 | .not a,x=>match x with | .not a'=>E.same a a' | _=>false
 | .and a b,x=>match x with | .and a' b'=>E.same a a'&&E.same b b' | _=>false
 | .beq a b,x=>match x with | .beq a' b'=>E.same a a'&&E.same b b' | _=>false
 | .getb a i c,x=>match x with | .getb a' i' c'=>Nat.beq c c'&&(E.same a a'&&E.same i i') | _=>false
 | .lvar a,x=>match x with | .lvar b=>Nat.beq a b | _=>false
 | .lnil,x=>match x with | .lnil=>true | _=>false
 | .lset a i c y,x=>match x with | .lset a' i' c' y'=>Nat.beq c c'&&(E.same a a'&&(E.same i i'&&E.same y y')) | _=>false
 | .lsetb a i c y,x=>match x with | .lsetb a' i' c' y'=>Nat.beq c c'&&(E.same a a'&&(E.same i i'&&E.same y y')) | _=>false
 | .lapp a b,x=>match x with | .lapp a' b'=>E.same a a'&&E.same b b' | _=>false
 | .lcat a b,x=>match x with | .lcat a' b'=>E.same a a'&&E.same b b' | _=>false
 | .lrep a b,x=>match x with | .lrep a' b'=>E.same a a'&&E.same b b' | _=>false
 | .ltake a b,x=>match x with | .ltake a' b'=>E.same a a'&&E.same b b' | _=>false
 | .ldrop a b,x=>match x with | .ldrop a' b'=>E.same a a'&&E.same b b' | _=>false
 | .mix a b,x=>match x with | .mix a' b'=>E.same a a'&&E.same b b' | _=>false
 | .leq a b,x=>match x with | .leq a' b'=>E.same a a'&&E.same b b' | _=>false
 | .nth a b,x=>match x with | .nth a' b'=>E.same a a'&&E.same b b' | _=>false
 | .ite a i y,x=>match x with | .ite a' i' y'=>E.same a a'&&(E.same i i'&&E.same y y') | _=>false
 | .lput a i y,x=>match x with | .lput a' i' y'=>E.same a a'&&(E.same i i'&&E.same y y') | _=>false
theorem E.same_eq {a b:E} (h:E.same a b=true):a=b:=by
 induction a generalizing b<;>cases b<;>first | exact Bool.noConfusion h | skip
 case lit.lit=>rw[bH h]
 case var.var=>rw[Nat.eq_of_beq_eq_true h]
 case bvar.bvar=>rw[Nat.eq_of_beq_eq_true h]
 case lvar.lvar=>rw[Nat.eq_of_beq_eq_true h]
 case nil.nil=>rfl
 case lnil.lnil=>rfl
 case tt.tt=>rw[E.same,beq_iff_eq] at h; rw[h]
 case bin.bin ih1 ih2 _ _ _ _=>simp only[E.same,Bool.and_eq_true] at h; obtain⟨h1,h2,h3,h4⟩:=h; rw[wo h1,ao h2,ih1 h3,ih2 h4]
 case conv.conv ih _ _=>simp only[E.same,Bool.and_eq_true] at h; rw[ao h.1,ih h.2]
 case not.not ih _=>rw[ih h]
 case len.len ih _=>rw[ih h]
 case get.get ih1 ih2 _ _ _=>simp only[E.same,Bool.and_eq_true] at h; rw[Nat.eq_of_beq_eq_true h.1,ih1 h.2.1,ih2 h.2.2]
 case getb.getb ih1 ih2 _ _ _=>simp only[E.same,Bool.and_eq_true] at h; rw[Nat.eq_of_beq_eq_true h.1,ih1 h.2.1,ih2 h.2.2]
 case lset.lset ih1 ih2 ih3 _ _ _ _=>simp only[E.same,Bool.and_eq_true] at h; rw[Nat.eq_of_beq_eq_true h.1,ih1 h.2.1,ih2 h.2.2.1,ih3 h.2.2.2]
 case ite.ite ih1 ih2 ih3 _ _ _=>simp only[E.same,Bool.and_eq_true] at h; rw[ih1 h.1,ih2 h.2.1,ih3 h.2.2]
 case lput.lput ih1 ih2 ih3 _ _ _=>simp only[E.same,Bool.and_eq_true] at h; rw[ih1 h.1,ih2 h.2.1,ih3 h.2.2]
 case lsetb.lsetb ih1 ih2 ih3 _ _ _ _=>simp only[E.same,Bool.and_eq_true] at h; rw[Nat.eq_of_beq_eq_true h.1,ih1 h.2.1,ih2 h.2.2.1,ih3 h.2.2.2]
 all_goals
  rename_i ih1 ih2 _ _
  simp only[E.same,Bool.and_eq_true] at h
  rw[ih1 h.1,ih2 h.2]
def gt (L:List (List Int)) (i:Int) (c:Nat):Int:=(L.getD i.toNat []).getD c 0
def st (L:List (List Int)) (i:Int) (c:Nat) (x:Int):List (List Int):=L.set i.toNat ((L.getD i.toNat []).set c x)
def mixI (L:List (List Int)) (key:List Int):Int:=(L.findIdx fun r=>r.take key.length==key:Nat)
def b2i (b:Bool):Int:=if b then 1 else 0
inductive Dt where
 | z (x:Int)
 | l (L:List (List Int))
 deriving Inhabited
structure Env where
 i:Nat→Int
 b:Nat→Bool
 l:Nat→List (List Int)
def opI (op:BinOp) (k:IntKind) (a b:Int):Int:=
 match op with
 | .add=>k.wrap (a+b)
 | .sub=>k.wrap (a-b)
 | .mul=>k.wrap (a*b)
 | .quo=>k.wrap (a.tdiv b)
 | .rem=>a.tmod b
 | .and | .or | .xor | .andNot=>bits op k a b
 | .shl=>k.wrap (a*2 ^ min b.toNat k.bits)
 | .shr=>a.fdiv (2 ^ min b.toNat k.bits)
 | _=>0
mutual
def E.I (ρ:Env):E→Int
 | .lit z=>z
 | .var n=>ρ.i n
 | .bin op k a b=>opI op k (a.I ρ) (b.I ρ)
 | .conv k a=>k.wrap (a.I ρ)
 | .mn a b=>min (a.I ρ) (b.I ρ)
 | .mx a b=>max (a.I ρ) (b.I ρ)
 | .len a=>((a.R ρ).length:Int)
 | .get a i c=>gt (a.R ρ) (i.I ρ) c
 | .mix l key=>mixI (l.R ρ) (key.L ρ)
 | .nth i l=>(l.L ρ).getD (i.I ρ).toNat 0
 | .ite c a b=>if c.B ρ then a.I ρ else b.I ρ
 | _=>0
 termination_by structural x=>x
def E.B (ρ:Env):E→Bool
 | .tt b=>b
 | .bvar n=>ρ.b n
 | .lt a b=>decide (a.I ρ<b.I ρ)
 | .eq a b=>a.I ρ==b.I ρ
 | .not a=>!a.B ρ
 | .and a b=>a.B ρ&&b.B ρ
 | .beq a b=>a.B ρ==b.B ρ
 | .getb a i c=>gt (a.R ρ) (i.I ρ) c==1
 | .leq a b=>a.R ρ==b.R ρ
 | _=>false
 termination_by structural x=>x
def E.L (ρ:Env):E→List Int
 | .cons a t=>a.I ρ::t.L ρ
 | .consb b t=>b2i (b.B ρ)::t.L ρ
 | _=>[]
 termination_by structural x=>x
def E.R (ρ:Env):E→List (List Int)
 | .lvar n=>ρ.l n
 | .lset a i c x=>st (a.R ρ) (i.I ρ) c (x.I ρ)
 | .lsetb a i c x=>st (a.R ρ) (i.I ρ) c (b2i (x.B ρ))
 | .lapp a r=>a.R ρ++[r.L ρ]
 | .lput a i r=>(a.R ρ).set (i.I ρ).toNat (r.L ρ)
 | .lcat a b=>a.R ρ++b.R ρ
 | .lrep n r=>List.replicate (n.I ρ).toNat (r.L ρ)
 | .ltake a n=>(a.R ρ).take (n.I ρ).toNat
 | .ldrop a n=>(a.R ρ).drop (n.I ρ).toNat
 | _=>[]
 termination_by structural x=>x
end
def E.D (ρ:Env):E→List Dt
 | .cons a t=>.z (a.I ρ)::t.D ρ
 | .consb b t=>.z (b2i (b.B ρ))::t.D ρ
 | .consl l t=>.l (l.R ρ)::t.D ρ
 | _=>[]
structure SV where
 a:Option Addr
 n:Nat
 c:Nat
 z:List (Nat×Obj)
def SV.v (s:SV):Value:=.slice s.a s.n s.c
def SV.mv (s:SV):Value:=.map (s.a.map (·.block))
def SV.cut (s:SV) (sz l h m:Nat):SV:=⟨if m=l then s.a else s.a.map (·.add (l*sz)),h-l,m-l,[]⟩
def fd (L:List (List Int)):ByteArray:=⟨(L.map fun r=>UInt8.ofNat (r.getD 0 0).toNat).toArray⟩
def SV.pv (s:SV):Value:=.pointer (s.a.map fun a=>⟨a.block,0,none⟩)
structure Gh where
 y:Nat→Option Nat
 z:Nat→Option Obj
structure J where
 b:Nat→Option Nat
 s:Nat→Option SV
 f:Nat→Option Nat
 g:Gh
def Gh.zero:Gh:=⟨fun _=>Option.none,fun _=>Option.none⟩
def J.zero:J:=⟨fun _=>Option.none,fun _=>Option.none,fun _=>Option.none,Gh.zero⟩
inductive C where
 | int (k:IntKind) (e:E)
 | bool (e:E)
 | ptr (b o:Nat)
 | fp (b o:Nat)
 | fn (f:Nat)
 | nilp
 | undef
 | sl (id:Nat)
 | ep (id esz:Nat) (e:E) (off:Nat)
 | nsl
 | nilf
 | clo (g:Nat) (fs ps:List (Option (Bool×Nat×Nat)))
 | mp (id:Nat)
 | itp (id mid:Nat)
 | pe (b o n sz:Nat) (e:E) (off:Nat)
 | nmp
 | wn (id sz:Nat) (lo hi:E) (mx:Option E)
 | aw (b o n sz:Nat) (lo hi mx:E)
 | str (e:E)
 | yld (id:Nat)
 deriving Repr,Inhabited
inductive V where
 | one (c:C)
 | agg (cs:List C)
 | tup (vs:List (Bool×List C))
 | top
 deriving Repr,Inhabited
def SV.elem (s:SV) (n:Nat):Option Value:=s.a.map fun a=>.pointer (some (a.add n))
def ptrV (j:J):Option (Bool×Nat×Nat)→Option Value
 | none=>some (.pointer none)
 | some (true,b,o)=>(j.b b).map fun k=>.pointer (some ⟨k,o,none⟩)
 | some (false,b,o)=>(j.f b).map fun k=>.pointer (some ⟨k,o,none⟩)
def bU (j:J):List (Option (Bool×Nat×Nat))→Option (List Value)
 | []=>some []
 | x::l=>match ptrV j x,bU j l with
   | some v,some vs=>some (v::vs)
   | _,_=>none
def cloV (g:Nat):Option (List Value)→Option (List Value)→Option Value
 | some a,some b=>some (.func (.func g) a.toArray b.toArray)
 | _,_=>none
theorem cC {g:Nat} {a b:Option (List Value)} {v:Value} (h:cloV g a b=some v):∃x y,a=some x∧b=some y∧v=.func (.func g) x.toArray y.toArray:=by
 cases a<;>cases b<;>simp only[cloV] at h<;>cases h
 exact⟨_,_,rfl,rfl,rfl⟩
def mxN (ρ:Env) (mx:Option E) (c:Nat):Nat:=match mx with
 | some m=>(m.I ρ).toNat
 | none=>c
def C.den (ρ:Env) (j:J):C→Option Value
 | .wn id sz lo hi mx=>(j.s id).map fun s=>(s.cut sz (lo.I ρ).toNat (hi.I ρ).toNat (mxN ρ mx s.c)).v
 | .aw b o n sz lo hi mx=>(j.b b).map fun k=>((⟨some ⟨k,o,none⟩,n,n,[]⟩:SV).cut sz (lo.I ρ).toNat (hi.I ρ).toNat (mx.I ρ).toNat).v
 | .str e=>some (.string (fd (e.R ρ)))
 | .yld id=>(j.g.y id).map fun l=>.func (.yield l) #[] #[]
 | .int k e=>some (.int k (e.I ρ))
 | .bool e=>some (.bool (e.B ρ))
 | .ptr b o=>(j.b b).map fun k=>.pointer (some ⟨k,o,none⟩)
 | .fp b o=>(j.f b).map fun k=>.pointer (some ⟨k,o,none⟩)
 | .pe b o _ sz e off=>(j.b b).map fun k=>.pointer (some ⟨k,o+((e.I ρ).toNat*sz+off),none⟩)
 | .sl id=>(j.s id).map SV.v
 | .ep id esz e off=>(j.s id).bind fun v=>v.elem ((e.I ρ).toNat*esz+off)
 | .nsl=>some (.slice none 0 0)
 | .nilf=>some .nilFunc
 | .nmp=>some (.map none)
 | .fn f=>some (.func (.func f) #[] #[])
 | .nilp=>some (.pointer none)
 | .undef=>some Go.undef
 | .clo g fs ps=>cloV g (bU j fs) (bU j ps)
 | .mp id=>(j.s id).map SV.mv
 | .itp id mid=>(j.s id).bind fun s=>(j.s mid).bind fun m=>if m.a=some ⟨s.n,0,none⟩ then some s.pv else none
def denL (ρ:Env) (j:J):List C→Option (List Value)
 | []=>some []
 | c::cs=>match c.den ρ j,denL ρ j cs with
   | some v,some vs=>some (v::vs)
   | _,_=>none
def den0 (ρ:Env) (j:J):Bool×List C→Option Value
 | (true,cs)=>(denL ρ j cs).map fun vs=>.agg vs.toArray
 | (false,[c])=>c.den ρ j
 | (false,_)=>none
def bh (ρ:Env) (j:J):List (Bool×List C)→Option (List Value)
 | []=>some []
 | c::cs=>match den0 ρ j c,bh ρ j cs with
   | some v,some vs=>some (v::vs)
   | _,_=>none
def V.den (ρ:Env) (j:J):V→Option Value
 | .one c=>c.den ρ j
 | .agg cs=>(denL ρ j cs).map fun vs=>.agg vs.toArray
 | .tup vs=>(bh ρ j vs).map fun vs=>.tuple vs.toArray
 | .top=>none
structure Sub (j j':J):Prop where
 b:∀b k,j.b b=some k→j'.b b=some k
 s:∀b v,j.s b=some v→j'.s b=some v
 f:∀b k,j.f b=some k→j'.f b=some k
 y:∀b k,j.g.y b=some k→j'.g.y b=some k
theorem Sub.refl (j:J):Sub j j:=⟨fun _ _ h=>h,fun _ _ h=>h,fun _ _ h=>h,fun _ _ h=>h⟩
theorem Sub.trans {j j' j'':J} (h:Sub j j') (h':Sub j' j''):Sub j j'':=⟨fun b k e=>h'.b b k (h.b b k e),fun b k e=>h'.s b k (h.s b k e),fun b k e=>h'.f b k (h.f b k e),fun b k e=>h'.y b k (h.y b k e)⟩
theorem Sub.zero (j:J):Sub J.zero j:=⟨fun _ _ h=>(by cases h),fun _ _ h=>(by cases h),fun _ _ h=>(by cases h),fun _ _ h=>(by cases h)⟩
theorem yx {j j':J} (h:Sub j j') {x:Option (Bool×Nat×Nat)} {v:Value} (hd:ptrV j x=some v):ptrV j' x=some v:=by
 match x,hd with
 | none,hd=>exact hd
 | some (true,b,o),hd=>
   simp only[ptrV,Option.map_eq_some_iff] at hd ⊢
   obtain⟨k,hk,rfl⟩:=hd
   exact⟨k,h.b b k hk,rfl⟩
 | some (false,b,o),hd=>
   simp only[ptrV,Option.map_eq_some_iff] at hd ⊢
   obtain⟨k,hk,rfl⟩:=hd
   exact⟨k,h.f b k hk,rfl⟩
theorem jS {j j':J} (h:Sub j j'):∀{l:List (Option (Bool×Nat×Nat))} {vs:List Value},bU j l=some vs→bU j' l=some vs
 | [],_,hd=>hd
 | x::l,vs,hd=>by
   simp only[bU] at hd ⊢
   cases hx:ptrV j x with
   | none=>rw[hx] at hd; cases hd
   | some v=>
     cases hl:bU j l with
     | none=>rw[hx,hl] at hd; cases hd
     | some us=>
       rw[hx,hl] at hd
       rw[yx h hx,jS h hl]
       exact hd
theorem C.den_sub {ρ:Env} {j j':J} (h:Sub j j') {c:C} {v:Value} (hd:c.den ρ j=some v):c.den ρ j'=some v:=by
 cases c with
 | ptr b o=>
   simp only[C.den,Option.map_eq_some_iff] at hd ⊢
   obtain⟨k,hk,rfl⟩:=hd
   exact⟨k,h.b b k hk,rfl⟩
 | fp b o=>
   simp only[C.den,Option.map_eq_some_iff] at hd ⊢
   obtain⟨k,hk,rfl⟩:=hd
   exact⟨k,h.f b k hk,rfl⟩
 | sl id=>
   simp only[C.den,Option.map_eq_some_iff] at hd ⊢
   obtain⟨u,hu,rfl⟩:=hd
   exact⟨u,h.s id u hu,rfl⟩
 | ep id esz e off=>
   simp only[C.den,Option.bind_eq_some_iff] at hd ⊢
   obtain⟨u,hu,he⟩:=hd
   exact⟨u,h.s id u hu,he⟩
 | wn id sz lo hi mx=>
   simp only[C.den,Option.map_eq_some_iff] at hd ⊢
   obtain⟨u,hu,rfl⟩:=hd
   exact⟨u,h.s id u hu,rfl⟩
 | aw b o n sz lo hi mx=>
   simp only[C.den,Option.map_eq_some_iff] at hd ⊢
   obtain⟨u,hu,rfl⟩:=hd
   exact⟨u,h.b b u hu,rfl⟩
 | mp id=>
   simp only[C.den,Option.map_eq_some_iff] at hd ⊢
   obtain⟨u,hu,rfl⟩:=hd
   exact⟨u,h.s id u hu,rfl⟩
 | yld id=>
   simp only[C.den,Option.map_eq_some_iff] at hd ⊢
   obtain⟨u,hu,rfl⟩:=hd
   exact⟨u,h.y id u hu,rfl⟩
 | pe b o n sz e off=>
   simp only[C.den,Option.map_eq_some_iff] at hd ⊢
   obtain⟨u,hu,rfl⟩:=hd
   exact⟨u,h.b b u hu,rfl⟩
 | itp id mid=>
   simp only[C.den,Option.bind_eq_some_iff] at hd ⊢
   obtain⟨u,hu,m,hm,he⟩:=hd
   exact⟨u,h.s id u hu,m,h.s mid m hm,he⟩
 | clo g fs ps=>
   obtain⟨x,y,hx,hy,rfl⟩:=cC hd
   simp only[C.den,jS h hx,jS h hy,cloV]
 | _=>exact hd
theorem aH {ρ:Env} {j j':J} (h:Sub j j'):∀{cs:List C} {vs:List Value},denL ρ j cs=some vs→denL ρ j' cs=some vs
 | [],_,hd=>hd
 | c::cs,vs,hd=>by
   simp only[denL] at hd ⊢
   cases hc:c.den ρ j with
   | none=>rw[hc] at hd; cases hd
   | some v=>
     cases hl:denL ρ j cs with
     | none=>rw[hc,hl] at hd; cases hd
     | some l=>
       rw[hc,hl] at hd
       rw[C.den_sub h hc,aH h hl]
       exact hd
theorem zf {ρ:Env} {j j':J} (h:Sub j j') {p:Bool×List C} {v:Value} (hd:den0 ρ j p=some v):den0 ρ j' p=some v:=by
 obtain⟨t,cs⟩:=p
 cases t with
 | true=>
   simp only[den0,Option.map_eq_some_iff] at hd ⊢
   obtain⟨l,hl,rfl⟩:=hd
   exact⟨l,aH h hl,rfl⟩
 | false=>
   match cs,hd with
   | [c],hd=>exact C.den_sub h hd
theorem oO {ρ:Env} {j j':J} (h:Sub j j'):∀{cs:List (Bool×List C)} {vs:List Value},bh ρ j cs=some vs→bh ρ j' cs=some vs
 | [],_,hd=>hd
 | c::cs,vs,hd=>by
   simp only[bh] at hd ⊢
   cases hc:den0 ρ j c with
   | none=>rw[hc] at hd; cases hd
   | some v=>
     cases hl:bh ρ j cs with
     | none=>rw[hc,hl] at hd; cases hd
     | some l=>
       rw[hc,hl] at hd
       rw[zf h hc,oO h hl]
       exact hd
theorem zK {ρ:Env} {j:J} {id mid:Nat} {v:Value} (h:(C.itp id mid).den ρ j=some v):∃s m,j.s id=some s∧j.s mid=some m∧m.a=some ⟨s.n,0,none⟩∧v=s.pv:=by
 simp only[C.den,Option.bind_eq_some_iff] at h
 obtain⟨u,hu,m,hm,he⟩:=h
 split at he
 ·rename_i hc; cases he; exact⟨u,m,hu,hm,hc,rfl⟩
 ·cases he
theorem V.den_sub {ρ:Env} {j j':J} (h:Sub j j') {x:V} {v:Value} (hd:x.den ρ j=some v):x.den ρ j'=some v:=by
 cases x with
 | one c=>exact C.den_sub h hd
 | agg cs=>
   simp only[V.den,Option.map_eq_some_iff] at hd ⊢
   obtain⟨l,hl,rfl⟩:=hd
   exact⟨l,aH h hl,rfl⟩
 | tup vs=>
   simp only[V.den,Option.map_eq_some_iff] at hd ⊢
   obtain⟨l,hl,rfl⟩:=hd
   exact⟨l,oO h hl,rfl⟩
 | top=>cases hd
theorem aA {ρ:Env} {j:J}:∀{cs:List C} {vs:List Value},denL ρ j cs=some vs→vs.length=cs.length
 | [],vs,h=>by cases h; rfl
 | c::cs,vs,h=>by
   simp only[denL] at h
   cases hc:c.den ρ j with
   | none=>rw[hc] at h; cases h
   | some v=>
     cases hl:denL ρ j cs with
     | none=>rw[hc,hl] at h; cases h
     | some l=>rw[hc,hl] at h; cases h; simp[aA hl]
theorem bz {ρ:Env} {j:J}:∀{cs:List C} {vs:List Value},denL ρ j cs=some vs→∀(i:Nat) c,cs[i]? =some c→∃v,vs[i]? =some v∧c.den ρ j=some v
 | [],vs,h,i,c,hc=>by simp at hc
 | c::cs,vs,h,i,c',hc'=>by
   simp only[denL] at h
   cases hc:c.den ρ j with
   | none=>rw[hc] at h; cases h
   | some v=>
     cases hl:denL ρ j cs with
     | none=>rw[hc,hl] at h; cases h
     | some l=>
       rw[hc,hl] at h; cases h
       cases i with
       | zero=>simp at hc'; subst hc'; exact⟨v,rfl,hc⟩
       | succ i=>exact bz hl i c' (by simpa using hc')
theorem mK {ρ:Env} {j:J}:∀{cs:List C} {vs:List Value},denL ρ j cs=some vs→∀(i:Nat) (c:C) (v:Value),c.den ρ j=some v→denL ρ j (cs.set i c)=some (vs.set i v)
 | [],vs,h,i,c,v,hv=>by cases h; rfl
 | c::cs,vs,h,i,c',v',hv'=>by
   simp only[denL] at h
   cases hc:c.den ρ j with
   | none=>rw[hc] at h; cases h
   | some v=>
     cases hl:denL ρ j cs with
     | none=>rw[hc,hl] at h; cases h
     | some l=>
       rw[hc,hl] at h; cases h
       cases i with
       | zero=>simp only[List.set_cons_zero,denL,hv',hl]
       | succ i=>simp only[List.set_cons_succ,denL,hc,mK hl i c' v' hv']
theorem dx {ρ:Env} {j:J}:∀{cs ds:List C} {vs us:List Value},denL ρ j cs=some vs→denL ρ j ds=some us→denL ρ j (cs++ds)=some (vs++us)
 | [],ds,vs,us,h,h'=>by cases h; exact h'
 | c::cs,ds,vs,us,h,h'=>by
   simp only[denL] at h
   cases hc:c.den ρ j with
   | none=>rw[hc] at h; cases h
   | some v=>
     cases hl:denL ρ j cs with
     | none=>rw[hc,hl] at h; cases h
     | some l=>
       rw[hc,hl] at h; cases h
       simp only[List.cons_append,denL,hc,dx hl h']
theorem gu {ρ:Env} {j:J}:∀{cs:List C} {vs:List Value},denL ρ j cs=some vs→∀(i:Nat),denL ρ j (cs.take i)=some (vs.take i)
 | [],vs,h,i=>by cases h; simp[denL]
 | c::cs,vs,h,i=>by
   simp only[denL] at h
   cases hc:c.den ρ j with
   | none=>rw[hc] at h; cases h
   | some v=>
     cases hl:denL ρ j cs with
     | none=>rw[hc,hl] at h; cases h
     | some l=>
       rw[hc,hl] at h; cases h
       cases i with
       | zero=>rfl
       | succ i=>simp only[List.take_succ_cons,denL,hc,gu hl i]
theorem em {ρ:Env} {j:J}:∀{cs:List C} {vs:List Value},denL ρ j cs=some vs→∀(i:Nat),denL ρ j (cs.drop i)=some (vs.drop i)
 | [],vs,h,i=>by cases h; simp[denL]
 | c::cs,vs,h,i=>by
   have h0:=h
   simp only[denL] at h
   cases hc:c.den ρ j with
   | none=>rw[hc] at h; cases h
   | some v=>
     cases hl:denL ρ j cs with
     | none=>rw[hc,hl] at h; cases h
     | some l=>
       rw[hc,hl] at h; cases h
       cases i with
       | zero=>exact h0
       | succ i=>simp only[List.drop_succ_cons]; exact em hl i
theorem oP {ρ:Env} {j:J}:∀{cs:List (Bool×List C)} {vs:List Value},bh ρ j cs=some vs→∀(i:Nat) c,cs[i]? =some c→∃v,vs[i]? =some v∧den0 ρ j c=some v
 | [],vs,h,i,c,hc=>by simp at hc
 | c::cs,vs,h,i,c',hc'=>by
   simp only[bh] at h
   cases hc:den0 ρ j c with
   | none=>rw[hc] at h; cases h
   | some v=>
     cases hl:bh ρ j cs with
     | none=>rw[hc,hl] at h; cases h
     | some l=>
       rw[hc,hl] at h; cases h
       cases i with
       | zero=>simp at hc'; subst hc'; exact⟨v,rfl,hc⟩
       | succ i=>exact oP hl i c' (by simpa using hc')
end Go.Proofs.Ytghiofgomcihcaa
