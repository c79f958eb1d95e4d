import Derived.Test.YtgolejfhoefeaaaGreatDoorLib
import Derived.Maps.AppendAt
import Derived.OpenShut
import Derived.Laws.EntriesVeiled
import Derived.Calls
import Derived.Laws.OwnMore
import Derived.Deep.Onto
set_option maxRecDepth 100000
set_option maxHeartbeats 8000000
set_option linter.defProp false
set_option linter.unusedVariables false
set_option linter.unusedSimpArgs false
namespace Go.Proofs.YtgolejfhoefeaaaGreatDoor
open Option renaming some->ZA,none->ZE,map_some->YU
open Bool renaming true->ZB,false->ZC
open Sem renaming run_bind->ZI
open Nat renaming beq->ZJ,le_refl->ZK,add_zero->ZS,add_assoc->YW
open List renaming replicate->ZM,nil_append->ZQ,length_cons->YS,mem_cons->YT,all_cons->ZY
open Option.some renaming inj->ZN
open Go.IntKind renaming signed->YV,bits->ZX
open Go.RowKit
variable {w w':World}{x y:Operand}{base xt yt off i c t b g fo BC ft s:Nat}{op:BinOp}{k k1 kd k2:IntKind}{r:List Int}{a z:Int}{vs:List Value}{o:Bool}{l:List (Nat×Obj)}
abbrev CE:=Option IntKind
inductive E where
 |p (z:Int)
 |w (n:Nat)
 |f (op:BinOp) (k:IntKind) (a b:E)
 |F (k:IntKind) (a:E)
 |mn (a b:E)
 |mx (a b:E)
 |len (a:E)
 |get (a i:E) (c:Nat)
 |nil
 |cons (a t:E)
 |j (b t:E)
 |N (l t:E)
 |tt (b:Bool)
 |s (n:Nat)
 |lt (a b:E)
 |eq (a b:E)
 |not (a:E)
 |and (a b:E)
 |beq (a b:E)
 |getb (a i:E) (c:Nat)
 |g (n:Nat)
 |ln
 |lset (a i:E) (c:Nat) (x:E)
 |lsetb (a i:E) (c:Nat) (x:E)
 |lq (a r:E)
 |lcat (a b:E)
 |lrep (n r:E)
 |ltake (a n:E)
 |ldrop (a n:E)
 |mix (l key:E)
 |lput (l i r:E)
 |nth (i l:E)
 |ite (c a b:E)
 |leq (a b:E)
 deriving Repr,Inhabited
def amy:BinOp->BinOp->Bool
 |.add,.add|.sub,.sub|.mul,.mul|.quo,.quo|.rem,.rem|.and,.and|.or,.or|.xor,.xor|.shl,.shl|.shr,.shr|.andNot,.andNot=>ZB
 |_,_=>ZC
def bE:IntKind->IntKind->Bool
 |.i8,.i8|.i16,.i16|.i32,.i32|.i64,.i64|.u8,.u8|.u16,.u16|.u32,.u32|.u64,.u64=>ZB
 |_,_=>ZC
def agZ{a b:BinOp}(h:amy a b=ZB):a=b:=by cases a<;>cases b<;>first|rfl|cases h
def ar{a b:IntKind}(h:bE a b=ZB):a=b:=by cases a<;>cases b<;>first|rfl|cases h
def fC:Int->Int->Bool
 |.ofNat a,.ofNat b=>ZJ a b
 |.negSucc a,.negSucc b=>ZJ a b
 |_,_=>ZC
def cR{b:Int}(h:fC a b=ZB):a=b:=by cases a<;>cases b<;>simp[fC]at h<;>simp[h]
def uK{b:Int}:fC a b=(a==b):=by
 cases h:fC a b with
 |true=>rw[cR h];simp
 |false=>symm;rw[beq_eq_false_iff_ne];rintro rfl;cases a<;>simp[fC]at h
def E.same:E->E->Bool
 |.p a,x=>match x with|.p b=>fC a b|_=>ZC
 |.w a,x=>match x with|.w b=>ZJ a b|_=>ZC
 |.f o k a b,x=>match x with|.f o' k' a' b'=>amy o o'&&(bE k k'&&(E.same a a'&&E.same b b'))|_=>ZC
 | .F k a,x=>match x with | .F k' a'=>bE k k'&&E.same a a'|_=>ZC
 |.mn a b,x=>match x with|.mn a' b'=>E.same a a'&&E.same b b'|_=>ZC
 |.mx a b,x=>match x with|.mx a' b'=>E.same a a'&&E.same b b'|_=>ZC
 |.len a,x=>match x with|.len a'=>E.same a a'|_=>ZC
 |.get a i c,x=>match x with|.get a' i' c'=>ZJ c c'&&(E.same a a'&&E.same i i')|_=>ZC
 |.nil,x=>match x with|.nil=>ZB|_=>ZC
 |.cons a b,x=>match x with|.cons a' b'=>E.same a a'&&E.same b b'|_=>ZC
 |.j a b,x=>match x with|.j a' b'=>E.same a a'&&E.same b b'|_=>ZC
 | .N a b,x=>match x with | .N a' b'=>E.same a a'&&E.same b b'|_=>ZC
 |.tt a,x=>match x with|.tt b=>a==b|_=>ZC
 |.s a,x=>match x with|.s b=>ZJ a b|_=>ZC
 |.lt a b,x=>match x with|.lt a' b'=>E.same a a'&&E.same b b'|_=>ZC
 |.eq a b,x=>match x with|.eq a' b'=>E.same a a'&&E.same b b'|_=>ZC
 |.not a,x=>match x with|.not a'=>E.same a a'|_=>ZC
 |.and a b,x=>match x with|.and a' b'=>E.same a a'&&E.same b b'|_=>ZC
 |.beq a b,x=>match x with|.beq a' b'=>E.same a a'&&E.same b b'|_=>ZC
 |.getb a i c,x=>match x with|.getb a' i' c'=>ZJ c c'&&(E.same a a'&&E.same i i')|_=>ZC
 |.g a,x=>match x with|.g b=>ZJ a b|_=>ZC
 |.ln,x=>match x with|.ln=>ZB|_=>ZC
 |.lset a i c y,x=>match x with|.lset a' i' c' y'=>ZJ c c'&&(E.same a a'&&(E.same i i'&&E.same y y'))|_=>ZC
 |.lsetb a i c y,x=>match x with|.lsetb a' i' c' y'=>ZJ c c'&&(E.same a a'&&(E.same i i'&&E.same y y'))|_=>ZC
 |.lq a b,x=>match x with|.lq a' b'=>E.same a a'&&E.same b b'|_=>ZC
 |.lcat a b,x=>match x with|.lcat a' b'=>E.same a a'&&E.same b b'|_=>ZC
 |.lrep a b,x=>match x with|.lrep a' b'=>E.same a a'&&E.same b b'|_=>ZC
 |.ltake a b,x=>match x with|.ltake a' b'=>E.same a a'&&E.same b b'|_=>ZC
 |.ldrop a b,x=>match x with|.ldrop a' b'=>E.same a a'&&E.same b b'|_=>ZC
 |.mix a b,x=>match x with|.mix a' b'=>E.same a a'&&E.same b b'|_=>ZC
 |.leq a b,x=>match x with|.leq a' b'=>E.same a a'&&E.same b b'|_=>ZC
 |.nth a b,x=>match x with|.nth a' b'=>E.same a a'&&E.same b b'|_=>ZC
 |.ite a i y,x=>match x with|.ite a' i' y'=>E.same a a'&&(E.same i i'&&E.same y y')|_=>ZC
 |.lput a i y,x=>match x with|.lput a' i' y'=>E.same a a'&&(E.same i i'&&E.same y y')|_=>ZC
def E.same_eq{a b:E}(h:E.same a b=ZB):a=b:=by
 induction a generalizing b<;>cases b<;>first|exact Bool.noConfusion h|skip
 case p.p=>rw[cR h]
 case w.w=>rw[Ak h]
 case s.s=>rw[Ak h]
 case g.g=>rw[Ak h]
 case nil.nil=>rfl
 case ln.ln=>rfl
 case tt.tt=>rw[E.same,cL]at h;rw[h]
 case f.f Es Ee _ _ _ _=>simp only[E.same,ne]at h;obtain⟨h1,h2,h3,h4⟩:=h;rw[agZ h1,ar h2,Es h3,Ee h4]
 case F.F ih _ _=>simp only[E.same,ne]at h;rw[ar h.1,ih h.2]
 case not.not ih _=>rw[ih h]
 case len.len ih _=>rw[ih h]
 case get.get Es Ee _ _ _=>simp only[E.same,ne]at h;rw[Ak h.1,Es h.2.1,Ee h.2.2]
 case getb.getb Es Ee _ _ _=>simp only[E.same,ne]at h;rw[Ak h.1,Es h.2.1,Ee h.2.2]
 case lset.lset Es Ee ih3 _ _ _ _=>simp only[E.same,ne]at h;rw[Ak h.1,Es h.2.1,Ee h.2.2.1,ih3 h.2.2.2]
 case ite.ite Es Ee ih3 _ _ _=>simp only[E.same,ne]at h;rw[Es h.1,Ee h.2.1,ih3 h.2.2]
 case lput.lput Es Ee ih3 _ _ _=>simp only[E.same,ne]at h;rw[Es h.1,Ee h.2.1,ih3 h.2.2]
 case lsetb.lsetb Es Ee ih3 _ _ _ _=>simp only[E.same,ne]at h;rw[Ak h.1,Es h.2.1,Ee h.2.2.1,ih3 h.2.2.2]
 all_goals
  rename_i Es Ee _ _;simp only[E.same,ne]at h;rw[Es h.1,Ee h.2]
def gt(L:LL)(i:Int)(c:Nat):Int:=(L.getD i.toNat []).getD c 0
def st(L:LL)(i:Int)(c:Nat)(x:Int):LL:=L.set i.toNat ((L.getD i.toNat []).set c x)
def Ge(L:LL)(key:List Int):Int:=(L.findIdx fun r=>r.take key.length==key:Nat)
def AE(b:Bool):Int:=if b then 1 else 0
inductive Dt where
 |z (x:Int)
 |l (L:LL)
 deriving Inhabited
structure Env where
 i:Nat->Int
 b:Nat->Bool
 l:Nat->LL
def Ac(op:BinOp)(k:IntKind)(a b:Int):Int:=
 match op with
 |.add=>k.wrap (a+b)
 |.sub=>k.wrap (a-b)
 |.mul=>k.wrap (a*b)
 |.quo=>k.wrap (a.tdiv b)
 |.rem=>a.tmod b
 |.and|.or|.xor|.andNot=>bits op k a b
 |.shl=>k.wrap (a*2 ^ min b.toNat k.bits)
 |.shr=>a.fdiv (2 ^ min b.toNat k.bits)
 |_=>0
mutual
def E.I(U:Env):E->Int
 |.p z=>z
 |.w n=>U.i n
 |.f op k a b=>Ac op k (a.I U) (b.I U)
 | .F k a=>k.wrap (a.I U)
 |.mn a b=>min (a.I U) (b.I U)
 |.mx a b=>max (a.I U) (b.I U)
 |.len a=>((a.R U).length:Int)
 |.get a i c=>gt (a.R U) (i.I U) c
 |.mix l key=>Ge (l.R U) (key.L U)
 |.nth i l=>(l.L U).getD (i.I U).toNat 0
 |.ite c a b=>if c.B U then a.I U else b.I U
 |_=>0
 termination_by structural x=>x
def E.B(U:Env):E->Bool
 |.tt b=>b
 |.s n=>U.b n
 |.lt a b=>decide (a.I U<b.I U)
 |.eq a b=>a.I U==b.I U
 |.not a=>!a.B U
 |.and a b=>a.B U&&b.B U
 |.beq a b=>a.B U==b.B U
 |.getb a i c=>gt (a.R U) (i.I U) c==1
 |.leq a b=>a.R U==b.R U
 |_=>ZC
 termination_by structural x=>x
def E.L(U:Env):E->List Int
 |.cons a t=>a.I U::t.L U
 |.j b t=>AE (b.B U)::t.L U
 |_=>[]
 termination_by structural x=>x
def E.R(U:Env):E->LL
 |.g n=>U.l n
 |.lset a i c x=>st (a.R U) (i.I U) c (x.I U)
 |.lsetb a i c x=>st (a.R U) (i.I U) c (AE (x.B U))
 |.lq a r=>a.R U++[r.L U]
 |.lput a i r=>(a.R U).set (i.I U).toNat (r.L U)
 |.lcat a b=>a.R U++b.R U
 |.lrep n r=>ZM (n.I U).toNat (r.L U)
 |.ltake a n=>(a.R U).take (n.I U).toNat
 |.ldrop a n=>(a.R U).drop (n.I U).toNat
 |_=>[]
 termination_by structural x=>x
end
def E.D(U:Env):E->List Dt
 |.cons a t=>.z (a.I U)::t.D U
 |.j b t=>.z (AE (b.B U))::t.D U
 | .N l t=>.l (l.R U)::t.D U
 |_=>[]
structure SV where
 a:Option Addr
 n:Nat
 c:Nat
 z:List (Nat×Obj)
def SV.v(s:SV):Value:=.slice s.a s.n s.c
def SV.mv(s:SV):Value:=.map (s.a.map (·.block))
def SV.cut(s:SV)(sz l h m:Nat):SV:=⟨if m=l then s.a else s.a.map (·.add (l*sz)),h-l,m-l,[]⟩
def ow(L:LL):ByteArray:=⟨(L.map fun r=>UInt8.ofNat (r.getD 0 0).toNat).toArray⟩
def SV.pv(s:SV):Value:=.pointer (s.a.map fun a=>⟨a.block,0,ZE⟩)
structure Gh where
 y:Nat->Option Nat
 z:Nat->Option Obj
structure J where
 b:Nat->Option Nat
 s:Nat->Option SV
 f:Nat->Option Nat
 g:Gh
def Gh.zero:Gh:=⟨fun _=>Option.none,fun _=>Option.none⟩
def J.zero:J:=⟨fun _=>Option.none,fun _=>Option.none,fun _=>Option.none,Gh.zero⟩
inductive C where
 |int (k:IntKind) (e:E)
 |bool (e:E)
 |ptr (b o:Nat)
 |fp (b o:Nat)
 |fn (f:Nat)
 |np
 |undef
 |sl (id:Nat)
 |ep (id BC:Nat) (e:E) (off:Nat)
 |nsl
 |nf
 |clo (g:Nat) (fs ps:List (Option (Bool×Nat×Nat)))
 |mp (id:Nat)
 |itp (id mid:Nat)
 |pe (b o n sz:Nat) (e:E) (off:Nat)
 |nmp
 |wn (id sz:Nat) (lo hi:E) (mx:Option E)
 |aw (b o n sz:Nat) (lo hi mx:E)
 |str (e:E)
 |yld (id:Nat)
 deriving Repr,Inhabited
inductive V where
 |one (c:C)
 |agg (cs:List C)
 |tup (vs:List (Bool×List C))
 |top
 deriving Repr,Inhabited
def SV.elem(s:SV)(n:Nat):Option Value:=s.a.map fun a=>.pointer (ZA (a.add n))
def Eg(j:J):Option (Bool×Nat×Nat)->Option Value
 |none=>ZA (.pointer ZE)
 |some (ZB,b,o)=>(j.b b).map fun k=>.pointer (ZA ⟨k,o,ZE⟩)
 |some (ZC,b,o)=>(j.f b).map fun k=>.pointer (ZA ⟨k,o,ZE⟩)
def eZ(j:J):List (Option (Bool×Nat×Nat))->Option (List Value)
 |[]=>ZA []
 |x::l=>match Eg j x,eZ j l with
   |some v,ZA vs=>ZA (v::vs)
   |_,_=>ZE
def FC(g:Nat):Option (List Value)->Option (List Value)->Option Value
 |some a,ZA b=>ZA (.func (.func g) a.toArray b.toArray)
 |_,_=>ZE
def gu{a b:Option (List Value)}{v:Value}(h:FC g a b=ZA v):∃x y,a=ZA x/\b=ZA y/\v=.func (.func g) x.toArray y.toArray:=by cases a<;>cases b<;>simp only[FC]at h<;>cases h;exact⟨_,_,rfl,rfl,rfl⟩
def Nt(U:Env)(mx:Option E)(c:Nat):Nat:=match mx with
 |some m=>(m.I U).toNat
 |none=>c
def C.den(U:Env)(j:J):C->Option Value
 |.wn id sz lo hi mx=>(j.s id).map fun s=>(s.cut sz (lo.I U).toNat (hi.I U).toNat (Nt U mx s.c)).v
 |.aw b o n sz lo hi mx=>(j.b b).map fun k=>((⟨ZA ⟨k,o,ZE⟩,n,n,[]⟩:SV).cut sz (lo.I U).toNat (hi.I U).toNat (mx.I U).toNat).v
 |.str e=>ZA (.string (ow (e.R U)))
 |.yld id=>(j.g.y id).map fun l=>.func (.yield l) #[] #[]
 |.int k e=>ZA (.int k (e.I U))
 |.bool e=>ZA (.bool (e.B U))
 |.ptr b o=>(j.b b).map fun k=>.pointer (ZA ⟨k,o,ZE⟩)
 |.fp b o=>(j.f b).map fun k=>.pointer (ZA ⟨k,o,ZE⟩)
 |.pe b o _ sz e off=>(j.b b).map fun k=>.pointer (ZA ⟨k,o+((e.I U).toNat*sz+off),ZE⟩)
 |.sl id=>(j.s id).map SV.v
 |.ep id BC e off=>(j.s id).bind fun v=>v.elem ((e.I U).toNat*BC+off)
 |.nsl=>ZA (.slice ZE 0 0)
 |.nf=>ZA .nilFunc
 |.nmp=>ZA (.map ZE)
 |.fn f=>ZA (.func (.func f) #[] #[])
 |.np=>ZA (.pointer ZE)
 |.undef=>ZA Go.undef
 |.clo g fs ps=>FC g (eZ j fs) (eZ j ps)
 |.mp id=>(j.s id).map SV.mv
 |.itp id mid=>(j.s id).bind fun s=>(j.s mid).bind fun m=>if m.a=ZA ⟨s.n,0,ZE⟩then ZA s.pv else ZE
def Af(U:Env)(j:J):List C->Option (List Value)
 |[]=>ZA []
 |c::cs=>match c.den U j,Af U j cs with
   |some v,ZA vs=>ZA (v::vs)
   |_,_=>ZE
def BL(U:Env)(j:J):Bool×List C->Option Value
 |(ZB,cs)=>(Af U j cs).map fun vs=>.agg vs.toArray
 |(ZC,[c])=>c.den U j
 |(ZC,_)=>ZE
def cm(U:Env)(j:J):List (Bool×List C)->Option (List Value)
 |[]=>ZA []
 |c::cs=>match BL U j c,cm U j cs with
   |some v,ZA vs=>ZA (v::vs)
   |_,_=>ZE
def V.den(U:Env)(j:J):V->Option Value
 |.one c=>c.den U j
 |.agg cs=>(Af U j cs).map fun vs=>.agg vs.toArray
 |.tup vs=>(cm U j vs).map fun vs=>.tuple vs.toArray
 |.top=>ZE
structure Sub(j j':J):Prop where
 b:∀b k,j.b b=ZA k->j'.b b=ZA k
 s:∀b v,j.s b=ZA v->j'.s b=ZA v
 f:∀b k,j.f b=ZA k->j'.f b=ZA k
 y:∀b k,j.g.y b=ZA k->j'.g.y b=ZA k
def Sub.refl(j:J):Sub j j:=⟨fun _ _ h=>h,fun _ _ h=>h,fun _ _ h=>h,fun _ _ h=>h⟩
def Sub.trans{j j' Wq:J}(h:Sub j j')(h':Sub j' Wq):Sub j Wq:=⟨fun b k e=>h'.b b k (h.b b k e),fun b k e=>h'.s b k (h.s b k e),fun b k e=>h'.f b k (h.f b k e),fun b k e=>h'.y b k (h.y b k e)⟩
def Sub.zero(j:J):Sub J.zero j:=⟨fun _ _ h=>Xo,fun _ _ h=>Xo,fun _ _ h=>Xo,fun _ _ h=>Xo⟩
def aks{j j':J}(h:Sub j j'){x:Option (Bool×Nat×Nat)}{v:Value}(hd:Eg j x=ZA v):Eg j' x=ZA v:=by
 match x,hd with
 |none,hd=>exact hd
 |some (ZB,b,o),hd=>simp only[Eg,Ay]at hd ⊢;obtain⟨k,hk,rfl⟩:=hd;exact⟨k,h.b b k hk,rfl⟩
 |some (ZC,b,o),hd=>simp only[Eg,Ay]at hd ⊢;obtain⟨k,hk,rfl⟩:=hd;exact⟨k,h.f b k hk,rfl⟩
def pX{j j':J}(h:Sub j j'):∀{l:List (Option (Bool×Nat×Nat))} {vs:List Value},eZ j l=ZA vs->eZ j' l=ZA vs
 |[],_,hd=>hd
 |x::l,vs,hd=>by
   simp only[eZ]at hd ⊢;cases hx:Eg j x with
   |none=>rw[hx]at hd;cases hd
   |some v=>
     cases hl:eZ j l with
     |none=>rw[hx,hl]at hd;cases hd
     |some us=>rw[hx,hl]at hd;rw[aks h hx,pX h hl];exact hd
def C.den_sub{U:Env}{j j':J}(h:Sub j j'){c:C}{v:Value}(hd:c.den U j=ZA v):c.den U j'=ZA v:=by
 cases c with
 |ptr b o=>simp only[C.den,Ay]at hd ⊢;obtain⟨k,hk,rfl⟩:=hd;exact⟨k,h.b b k hk,rfl⟩
 |fp b o=>simp only[C.den,Ay]at hd ⊢;obtain⟨k,hk,rfl⟩:=hd;exact⟨k,h.f b k hk,rfl⟩
 |sl id=>simp only[C.den,Ay]at hd ⊢;obtain⟨u,hu,rfl⟩:=hd;exact⟨u,h.s id u hu,rfl⟩
 |ep id BC e off=>simp only[C.den,cY]at hd ⊢;obtain⟨u,hu,he⟩:=hd;exact⟨u,h.s id u hu,he⟩
 |wn id sz lo hi mx=>simp only[C.den,Ay]at hd ⊢;obtain⟨u,hu,rfl⟩:=hd;exact⟨u,h.s id u hu,rfl⟩
 |aw b o n sz lo hi mx=>simp only[C.den,Ay]at hd ⊢;obtain⟨u,hu,rfl⟩:=hd;exact⟨u,h.b b u hu,rfl⟩
 |mp id=>simp only[C.den,Ay]at hd ⊢;obtain⟨u,hu,rfl⟩:=hd;exact⟨u,h.s id u hu,rfl⟩
 |yld id=>simp only[C.den,Ay]at hd ⊢;obtain⟨u,hu,rfl⟩:=hd;exact⟨u,h.y id u hu,rfl⟩
 |pe b o n sz e off=>simp only[C.den,Ay]at hd ⊢;obtain⟨u,hu,rfl⟩:=hd;exact⟨u,h.b b u hu,rfl⟩
 |itp id mid=>simp only[C.den,cY]at hd ⊢;obtain⟨u,hu,m,hm,he⟩:=hd;exact⟨u,h.s id u hu,m,h.s mid m hm,he⟩
 |clo g fs ps=>obtain⟨x,y,hx,hy,rfl⟩:=gu hd;simp only[C.den,pX h hx,pX h hy,FC]
 |_=>exact hd
def bC{U:Env}{j j':J}(h:Sub j j'):∀{cs:List C} {vs:List Value},Af U j cs=ZA vs->Af U j' cs=ZA vs
 |[],_,hd=>hd
 |c::cs,vs,hd=>by
   simp only[Af]at hd ⊢;cases hc:c.den U j with
   |none=>rw[hc]at hd;cases hd
   |some v=>
     cases hl:Af U j cs with
     |none=>rw[hc,hl]at hd;cases hd
     |some l=>rw[hc,hl]at hd;rw[C.den_sub h hc,bC h hl];exact hd
def alx{U:Env}{j j':J}(h:Sub j j'){p:Bool×List C}{v:Value}(hd:BL U j p=ZA v):BL U j' p=ZA v:=by
 obtain⟨t,cs⟩:=p;cases t with
 |true=>simp only[BL,Ay]at hd ⊢;obtain⟨l,hl,rfl⟩:=hd;exact⟨l,bC h hl,rfl⟩
 |false=>
   match cs,hd with
   |[c],hd=>exact C.den_sub h hd
def xp{U:Env}{j j':J}(h:Sub j j'):∀{cs:List (Bool×List C)} {vs:List Value},cm U j cs=ZA vs->cm U j' cs=ZA vs
 |[],_,hd=>hd
 |c::cs,vs,hd=>by
   simp only[cm]at hd ⊢;cases hc:BL U j c with
   |none=>rw[hc]at hd;cases hd
   |some v=>
     cases hl:cm U j cs with
     |none=>rw[hc,hl]at hd;cases hd
     |some l=>rw[hc,hl]at hd;rw[alx h hc,xp h hl];exact hd
def amT{U:Env}{j:J}{id mid:Nat}{v:Value}(h:(C.itp id mid).den U j=ZA v):∃s m,j.s id=ZA s/\j.s mid=ZA m/\m.a=ZA ⟨s.n,0,ZE⟩/\v=s.pv:=by
 simp only[C.den,cY]at h;obtain⟨u,hu,m,hm,he⟩:=h;split at he
 next hc=>cases he;exact⟨u,m,hu,hm,hc,rfl⟩
 .cases he
def V.den_sub{U:Env}{j j':J}(h:Sub j j'){x:V}{v:Value}(hd:x.den U j=ZA v):x.den U j'=ZA v:=by
 cases x with
 |one c=>exact C.den_sub h hd
 |agg cs=>simp only[V.den,Ay]at hd ⊢;obtain⟨l,hl,rfl⟩:=hd;exact⟨l,bC h hl,rfl⟩
 |tup vs=>simp only[V.den,Ay]at hd ⊢;obtain⟨l,hl,rfl⟩:=hd;exact⟨l,xp h hl,rfl⟩
 |top=>cases hd
def aR{U:Env}{j:J}:∀{cs:List C} {vs:List Value},Af U j cs=ZA vs->vs.length=cs.length
 |[],vs,h=>by cases h;rfl
 |c::cs,vs,h=>by
   simp only[Af]at h;cases hc:c.den U j with
   |none=>rw[hc]at h;cases h
   |some v=>
     cases hl:Af U j cs with
     |none=>rw[hc,hl]at h;cases h
     |some l=>rw[hc,hl]at h;cases h;simp[aR hl]
def dH{U:Env}{j:J}:∀{cs:List C} {vs:List Value},Af U j cs=ZA vs->∀(i:Nat) c,cs[i]? =ZA c->∃v,vs[i]? =ZA v/\c.den U j=ZA v
 |[],vs,h,i,c,hc=>by simp at hc
 |c::cs,vs,h,i,c',Gm=>by
   simp only[Af]at h;cases hc:c.den U j with
   |none=>rw[hc]at h;cases h
   |some v=>
     cases hl:Af U j cs with
     |none=>rw[hc,hl]at h;cases h
     |some l=>
       rw[hc,hl]at h;cases h;cases i with
       |zero=>simp at Gm;subst Gm;exact⟨v,rfl,hc⟩
       |succ i=>exact dH hl i c' (by simpa using Gm)
def uy{U:Env}{j:J}:∀{cs:List C} {vs:List Value},Af U j cs=ZA vs->∀(i:Nat) (c:C) (v:Value),c.den U j=ZA v->Af U j (cs.set i c)=ZA (vs.set i v)
 |[],vs,h,i,c,v,hv=>by cases h;rfl
 |c::cs,vs,h,i,c',v',CP=>by
   simp only[Af]at h;cases hc:c.den U j with
   |none=>rw[hc]at h;cases h
   |some v=>
     cases hl:Af U j cs with
     |none=>rw[hc,hl]at h;cases h
     |some l=>
       rw[hc,hl]at h;cases h;cases i with
       |zero=>simp only[List.set_cons_zero,Af,CP,hl]
       |succ i=>simp only[List.set_cons_succ,Af,hc,uy hl i c' v' CP]
def gr{U:Env}{j:J}:∀{cs ds:List C} {vs us:List Value},Af U j cs=ZA vs->Af U j ds=ZA us->Af U j (cs++ds)=ZA (vs++us)
 |[],ds,vs,us,h,h'=>by cases h;exact h'
 |c::cs,ds,vs,us,h,h'=>by
   simp only[Af]at h;cases hc:c.den U j with
   |none=>rw[hc]at h;cases h
   |some v=>
     cases hl:Af U j cs with
     |none=>rw[hc,hl]at h;cases h
     |some l=>rw[hc,hl]at h;cases h;simp only[List.cons_append,Af,hc,gr hl h']
def mN{U:Env}{j:J}:∀{cs:List C} {vs:List Value},Af U j cs=ZA vs->∀(i:Nat),Af U j (cs.take i)=ZA (vs.take i)
 |[],vs,h,i=>by cases h;simp[Af]
 |c::cs,vs,h,i=>by
   simp only[Af]at h;cases hc:c.den U j with
   |none=>rw[hc]at h;cases h
   |some v=>
     cases hl:Af U j cs with
     |none=>rw[hc,hl]at h;cases h
     |some l=>
       rw[hc,hl]at h;cases h;cases i with
       |zero=>rfl
       |succ i=>simp only[List.take_succ_cons,Af,hc,mN hl i]
def kl{U:Env}{j:J}:∀{cs:List C} {vs:List Value},Af U j cs=ZA vs->∀(i:Nat),Af U j (cs.drop i)=ZA (vs.drop i)
 |[],vs,h,i=>by cases h;simp[Af]
 |c::cs,vs,h,i=>by
   have h0:=h;simp only[Af]at h;cases hc:c.den U j with
   |none=>rw[hc]at h;cases h
   |some v=>
     cases hl:Af U j cs with
     |none=>rw[hc,hl]at h;cases h
     |some l=>
       rw[hc,hl]at h;cases h;cases i with
       |zero=>exact h0
       |succ i=>simp only[List.drop_succ_cons];exact kl hl i
def xq{U:Env}{j:J}:∀{cs:List (Bool×List C)} {vs:List Value},cm U j cs=ZA vs->∀(i:Nat) c,cs[i]? =ZA c->∃v,vs[i]? =ZA v/\BL U j c=ZA v
 |[],vs,h,i,c,hc=>by simp at hc
 |c::cs,vs,h,i,c',Gm=>by
   simp only[cm]at h;cases hc:BL U j c with
   |none=>rw[hc]at h;cases h
   |some v=>
     cases hl:cm U j cs with
     |none=>rw[hc,hl]at h;cases h
     |some l=>
       rw[hc,hl]at h;cases h;cases i with
       |zero=>simp at Gm;subst Gm;exact⟨v,rfl,hc⟩
       |succ i=>exact xq hl i c' (by simpa using Gm)
inductive CK where
 |int (k:IntKind)
 |bool
 |fn (g:Nat)
 |p (k:IntKind) (z:Int)
 |sl (ks:List CE) (ty:Nat)
 |nf
 |any
 |rl (ks:List CE) (ty:Nat) (L:LL)
 |el (ks:List CE) (ty:Nat)
 deriving Repr,Inhabited
inductive Sh where
 |one (c:CK)
 |agg (cs:List CK)
 |ptr (cs:List CK)
 deriving Repr,Inhabited
def Sh.cks:Sh->List CK
 |.one c=>[c]
 |.agg cs=>cs
 |.ptr cs=>cs
inductive VK where
 |int (k:IntKind)
 |bool
 |list (ks:List CE)
 deriving Repr,Inhabited
inductive RK where
 |sl
 |map (nk:Nat) (ka va:Bool)
 |it (mid:Nat) (n:E)
 |ev
 |tab
 deriving Repr,Inhabited
structure RowOb where
 ks:List CE
 ty:Nat
 l:E
 own:Bool
 kd:RK
 deriving Repr,Inhabited
def Do:List CE:=[ZA .i64,ZA .u64,ZA .i64,ZA .u64,ZA .u64,ZA .u64,ZA .u64,ZA .u64]
def RK.isHd:RK->Bool
 |.map _ _ _=>ZB
 |.it _ _=>ZB
 |.tab=>ZB
 |_=>ZC
def RK.isSl:RK->Bool
 |.sl=>ZB
 |_=>ZC
inductive Sig where
 |normal
 |exit (id:Nat)
 |ret
 deriving Repr,Inhabited
inductive LS where
 |ready
 |busy
 |done
 deriving Repr,Inhabited
structure Lp where
 st:LS
 pend:Option Sig
 deriving Repr,Inhabited
inductive Ob where
 |box (cs:List C) (ty:Nat)
 |row (r:RowOb)
 |gone
 |loop (y:Lp)
 deriving Repr,Inhabited
inductive TT where
 |u (v:V)
 |node (l r:TT)
 deriving Repr,Inhabited
def TT.get:TT->Nat->V
 |.u v,_=>v
 |.node l r,i=>bif ZJ (Nat.mod i 2) 0 then l.get (Nat.div i 2)else r.get (Nat.div i 2)
def TT.fst:TT->TT
 |.u v=>.u v
 |.node l _=>l
def TT.snd:TT->TT
 |.u v=>.u v
 |.node _ r=>r
def TT.set:Nat->TT->Nat->V->TT
 |0,_,_,v=>.u v
 |d+1,t,i,v=>bif ZJ (Nat.mod i 2) 0 then .node (t.fst.set d (Nat.div i 2) v) t.snd else .node t.fst (t.snd.set d (Nat.div i 2) v)
def TT.get_fst(t:TT)(i:Nat)(h:i % 2=0):t.fst.get (i / 2)=t.get i:=by
 cases t with
 |u v=>rfl
 |node l r=>have h':Nat.mod i 2=0:=h;show l.get (i / 2)=_;rw[TT.get,h'];rfl
def TT.get_snd(t:TT)(i:Nat)(h:i % 2≠0):t.snd.get (i / 2)=t.get i:=by
 cases t with
 |u v=>rfl
 |node l r=>
   have h':ZJ (Nat.mod i 2) 0=ZC:=by
    cases hb:ZJ (Nat.mod i 2) 0 with
    |false=>rfl
    |true=>exact absurd (Ak hb) h
   show r.get (i / 2)=_;rw[TT.get,h'];rfl
def TT.get_node(l r:TT)(i:Nat):(TT.node l r).get i=if i % 2=0 then l.get (i / 2)else r.get (i / 2):=by
 split
 next h=>exact(TT.get_fst (.node l r) i h).symm
 next h=>exact(TT.get_snd (.node l r) i h).symm
def TT.get_set(v:V):∀(d:Nat) (t:TT) (i j:Nat),i<2 ^ d->j<2 ^ d->(t.set d i v).get j=if i=j then v else t.get j
 |0,t,i,j,hi,hj=>by
   have:i=j:=by rw[Nat.pow_zero]at hi hj;omega
   rw[if_pos this];rfl
 |d+1,t,i,j,hi,hj=>by
   have hp:2 ^ (d+1)=2*2 ^ d:=by rw[Nat.pow_succ];omega
   have Gx:i / 2<2 ^ d:=Fn;have UR:j / 2<2 ^ d:=Fn;unfold TT.set;by_cases h:i % 2=0
   .have h':Nat.mod i 2=0:=h;rw[h'];show(TT.node (t.fst.set d (i / 2) v) t.snd).get j=_;rw[TT.get_node];by_cases h2:j % 2=0
    .rw[if_pos h2,TT.get_set v d t.fst _ _ Gx UR,TT.get_fst t j h2];by_cases e:i=j
     .rw[if_pos (by rw[e]),if_pos e]
     .rw[if_neg Fn,if_neg e]
    .rw[if_neg h2,TT.get_snd t j h2,if_neg Fn]
   .have h':ZJ (Nat.mod i 2) 0=ZC:=by
     cases hb:ZJ (Nat.mod i 2) 0 with
     |false=>rfl
     |true=>exact absurd (Ak hb) h
    rw[h'];show(TT.node t.fst (t.snd.set d (i / 2) v)).get j=_;rw[TT.get_node];by_cases h2:j % 2=0
    .rw[if_pos h2,TT.get_fst t j h2,if_neg Fn]
    .rw[if_neg h2,TT.get_set v d t.snd _ _ Gx UR,TT.get_snd t j h2];by_cases e:i=j
     .rw[if_pos (by rw[e]),if_pos e]
     .rw[if_neg Fn,if_neg e]
structure TM where
 cur:TT
 n:Nat
 old:List (TT×Nat)
 deriving Repr,Inhabited
def ja:List (TT×Nat)->Nat->Option V
 |[],_=>ZE
 |(t,n)::l,i=>if i<n then ZA (t.get i)else ja l (i-n)
def fd:List (TT×Nat)->Nat
 |[]=>0
 |(_,n)::l=>n+fd l
def TM.get?(m:TM)(i:Nat):Option V:=if i<m.n then ZA (m.cur.get i)else ja m.old (i-m.n)
def TM.length(m:TM):Nat:=m.n+fd m.old
def TM.set(m:TM)(i:Nat)(v:V):TM:=match m with
 |⟨c,n,o⟩=>⟨c.set (Nat.log2 n+1) i v,n,o⟩
def TM.setFrom(m:TM):Nat->List V->TM
 |_,[]=>m
 |i,v::l=>(m.set i v).setFrom (i+1) l
def TM.push(args:List V)(n:Nat)(m:TM):TM:=TM.setFrom ⟨.u (.one .undef),n,(m.cur,m.n)::m.old⟩ 0 args
def TM.pop(m:TM):TM:=match m.old with
 |[]=>⟨m.cur,0,[]⟩
 |(t,n)::l=>⟨t,n,l⟩
def TM.length_set(m:TM)(i:Nat)(v:V):(m.set i v).length=m.length:=rfl
def TM.n_set(m:TM)(i:Nat)(v:V):(m.set i v).n=m.n:=rfl
def TM.get_set(m:TM)(v:V)(h:i<m.n)(j:Nat):(m.set i v).get? j=if i=j then ZA v else m.get? j:=by
 unfold TM.get?;have hb:m.n<2 ^ (Nat.log2 m.n+1):=Nat.lt_log2_self;by_cases hj:j<m.n
 .rw[if_pos (show j<(m.set i v).n from hj),if_pos hj];show ZA ((m.cur.set (Nat.log2 m.n+1) i v).get j)=_;rw[TT.get_set v _ _ _ _ Fn Fn];split<;>rfl
 .rw[if_neg (show¬j<(m.set i v).n from hj),if_neg hj,if_neg Fn];rfl
def qb:∀{l:List (TT×Nat)} {i:Nat},ja l i=ZE↔fd l<=i
 |[],i=>by simp[ja,fd]
 |(t,n)::l,i=>by
   unfold ja fd;split
   .exact XC
   .rw[qb (l:=l)];omega
def TM.get_none{m:TM}:m.get? i=ZE↔m.length<=i:=by
 unfold TM.get? TM.length;split
 .exact XC
 .rw[qb];omega
def TM.get_some{m:TM}(h:i<m.length):∃v,m.get? i=ZA v:=by
 cases hg:m.get? i with
 |some v=>exact⟨v,rfl⟩
 |none=>have:=TM.get_none.1 hg;omega
def TM.n_le(m:TM):m.n<=m.length:=Nat.le_add_right _ _
def TM.get_lt{m:TM}(h:i<m.n):m.get? i=ZA (m.cur.get i):=if_pos h
def TM.setFrom_n:∀(l:List V) (m:TM) (i:Nat),(m.setFrom i l).n=m.n/\(m.setFrom i l).old=m.old
 |[],m,i=>⟨rfl,rfl⟩
 |v::l,m,i=>by rw[TM.setFrom];exact TM.setFrom_n l (m.set i v) (i+1)
def TM.setFrom_get:∀(l:List V) (m:TM) (i j:Nat),i+l.length<=m.n->(m.setFrom i l).get? j=if i<=j/\j<i+l.length then l[j-i]? else m.get? j
 |[],m,i,j,h=>by rw[TM.setFrom,if_neg (by simp only[List.length_nil];omega)]
 |v::l,m,i,j,h=>by
   simp only[YS]at h ⊢;rw[TM.setFrom,TM.setFrom_get l (m.set i v) (i+1) j (by rw[TM.n_set];omega),TM.get_set m v Fn];by_cases h1:i+1<=j/\j<i+1+l.length
   .rw[if_pos h1,if_pos Fn,show j-i=(j-(i+1))+1 by omega,lY]
   .rw[if_neg h1];by_cases h2:i=j
    .subst h2;rw[if_pos rfl,if_pos Fn,Nat.sub_self];rfl
    .rw[if_neg h2,if_neg Fn]
def TM.push_n(args:List V)(n:Nat)(m:TM):(m.push args n).n=n:=(TM.setFrom_n _ _ _).1
def TM.push_old(args:List V)(n:Nat)(m:TM):(m.push args n).old=(m.cur,m.n)::m.old:=(TM.setFrom_n _ _ _).2
def TM.push_length(args:List V)(n:Nat)(m:TM):(m.push args n).length=n+m.length:=by unfold TM.length;rw[TM.push_n,TM.push_old];rfl
def TM.push_arg{args:List V}{n:Nat}(m:TM)(h:args.length<=n)(hi:i<args.length):(m.push args n).get? i=args[i]? :=by unfold TM.push;rw[TM.setFrom_get _ _ _ _ Xx,if_pos Fn,Nat.sub_zero]
def TM.push_undef{args:List V}{n:Nat}(m:TM)(h:args.length<=n)(hi:args.length<=i)(hn:i<n):(m.push args n).get? i=ZA (.one .undef):=by unfold TM.push;rw[TM.setFrom_get _ _ _ _ Xx,if_neg Fn];exact TM.get_lt (m:=⟨.u (.one .undef),n,(m.cur,m.n)::m.old⟩) hn
def TM.push_old_get{args:List V}{n:Nat}(m:TM)(h:args.length<=n)(i:Nat):(m.push args n).get? (n+i)=m.get? i:=by unfold TM.push;rw[TM.setFrom_get _ _ _ _ Xx,if_neg Fn];unfold TM.get?;rw[if_neg (by simp only;omega)];show ja ((m.cur,m.n)::m.old) (n+i-n)=_;rw[Nat.add_sub_cancel_left];rfl
def TM.pop_get{m:TM}(h:m.old≠[])(i:Nat):m.pop.get? i=m.get? (m.n+i):=by
 obtain⟨c,n,old⟩:=m;cases old with
 |nil=>exact(h rfl).elim
 |cons p l=>obtain⟨t,k⟩:=p;show(TM.mk t k l).get? i=(TM.mk c n ((t,k)::l)).get? (n+i);unfold TM.get?;rw[if_neg (show¬n+i<n by omega)];simp only[Nat.add_sub_cancel_left];rfl
def TM.pop_length{m:TM}(h:m.old≠[]):m.length=m.n+m.pop.length:=by
 obtain⟨c,n,old⟩:=m;cases old with
 |nil=>exact(h rfl).elim
 |cons p l=>obtain⟨t,k⟩:=p;rfl
structure St where
 tmps:TM
 heap:List Ob
 deriving Repr,Inhabited
def St.n(s:St):Nat:=s.tmps.n
def St.le(s:St):s.n<=s.tmps.length:=s.tmps.n_le
inductive Tr where
 |u (e:E)
 |panic
 |stuck (n:Nat)
 |br (e:E) (t f:Tr)
 |call (key:Nat) (ks:List CK) (args:E) (v0:Nat) (t:Tr)
 |loop (lv v0:Nat) (vks:List VK) (init:E) (body:Tr)
 |cut (lv v0:Nat) (vks:List VK) (pre body:Tr)
 |next (lv:Nat) (args:E)
 |at(id:Nat) (s:St)
 |any (v0:Nat) (e:E) (t:Tr)
 |both (v0:Nat) (a b:Tr)
 deriving Repr,Inhabited
structure Spec where
 F:Nat->List Dt->List Dt
 pre:Nat->List Dt->Prop
 hw:World->Prop:=fun _=>True
 hx:∀w w',Ext w w'->hw w->hw w':=by exact fun _ _ _ _=>trivial
 hi:∃w,hw w:=by exact⟨default,trivial⟩
def dI(ds:List Dt)(n:Nat):Int:=match ds[n]? with|some (.z x)=>x|_=>0
def dB(ds:List Dt)(n:Nat):Bool:=dI ds n==1
def dL(ds:List Dt)(n:Nat):LL:=match ds[n]? with|some (.l L)=>L|_=>[]
def eqs(U:Env)(ds:List Dt)(v0:Nat):Nat->List CK->Prop
 |_,[]=>True
 |n,.int _::ks=>U.i (v0+n)=dI ds n/\eqs U ds v0 (n+1) ks
 |n,.bool::ks=>U.b (v0+n)=dB ds n/\eqs U ds v0 (n+1) ks
 |n,.sl _ _::ks=>U.l (v0+n)=dL ds n/\eqs U ds v0 (n+1) ks
 |n,_::ks=>eqs U ds v0 (n+1) ks
def Ag(n:Nat)(U U':Env):Prop:=∀i,i<n->U.i i=U'.i i/\U.b i=U'.b i/\U.l i=U'.l i
def Ag.refl(n:Nat)(U:Env):Ag n U U:=fun _ _=>⟨rfl,rfl,rfl⟩
def Ag.trans{n:Nat}{a b c:Env}(h:Ag n a b)(h':Ag n b c):Ag n a c:=fun i hi=>⟨(h i hi).1.trans (h' i hi).1,(h i hi).2.1.trans (h' i hi).2.1,(h i hi).2.2.trans (h' i hi).2.2⟩
def Ag.mono{n m:Nat}{a b:Env}(h:Ag n a b)(hm:m<=n):Ag m a b:=fun i hi=>h i Fn
def Ag.symm{n:Nat}{a b:Env}(h:Ag n a b):Ag n b a:=fun i hi=>⟨(h i hi).1.symm,(h i hi).2.1.symm,(h i hi).2.2.symm⟩
def Ae(k:IntKind)(z:Int):Bool:=decide (k.min<=z)&&decide (z<=k.max)
def Dn:CE->Int->Bool
 |some k,z=>Ae k z
 |none,z=>z==0||z==1
def av:List CE->List Int->Bool
 |[],[]=>ZB
 |k::ks,x::xs=>Dn k x&&av ks xs
 |_,_=>ZC
structure RowsIn(ks:List CE)(L:LL):Prop where
 row:∀r∈L,av ks r=ZB
 len:L.length<=maxLen
def varD(U:Env)(n:Nat):VK->Dt
 |.int _=>.z (U.i n)
 |.bool=>.z (AE (U.b n))
 |.list _=>.l (U.l n)
def varsD(U:Env):Nat->List VK->List Dt
 |_,[]=>[]
 |n,k::ks=>varD U n k::varsD U (n+1) ks
def okD:VK->Dt->Prop
 |.int k,.z x=>Ae k x=ZB
 |.bool,.z x=>x=0\/x=1
 |.list ks,.l L=>RowsIn ks L
 |_,_=>False
def okDs:List VK->List Dt->Prop
 |[],[]=>True
 |k::ks,d::ds=>okD k d/\okDs ks ds
 |_,_=>False
def HE(I:Nat->List Dt->Prop)(lv:Nat)(p:List Dt->Prop):Nat->List Dt->Prop:=fun n=>if n=lv then p else I n
def oz(I:Nat->List Dt->Prop)(lv:Nat)(p:List Dt->Prop):HE I lv p lv=p:=if_pos rfl
def pm(I:Nat->List Dt->Prop){lv n:Nat}(p:List Dt->Prop)(h:n≠lv):HE I lv p n=I n:=if_neg h
def Tr.holds(sp:Spec)(G:Env->E->Prop):Env->(Nat->List Dt->Prop)->Tr->Prop
 |U,_,.u e=>G U e
 |_,_,.panic=>False
 |_,_,.stuck _=>False
 |_,_,.at _ _=>False
 |U,I,.br e t f=>(e.B U=ZB->t.holds sp G U I)/\(e.B U=ZC->f.holds sp G U I)
 |U,I,.call key ks args v0 t=>sp.pre key (args.D U)/\eqs U (sp.F key (args.D U)) v0 0 ks/\t.holds sp G U I
 |U,I,.next lv args=>I lv (args.D U)
 |U,I,.any v0 e t=>∀z:Int,Ae .i64 z=ZB->∃U',Ag v0 U U'/\U'.i v0=z/\(e.B U'=ZB->t.holds sp G U' I)
 |U,I,.both v0 a b=>(∃U',Ag v0 U U'/\a.holds sp G U' I)/\∃U',Ag v0 U U'/\b.holds sp G U' I
 | U,I,.loop lv v0 vks init body=>∃(inv:List Dt->Prop) (μ:List Dt->Nat),inv (init.D U)/\
   ∀ds,okDs vks ds->inv ds->∃U',Ag v0 U U'/\varsD U' v0 vks=ds/\body.holds sp G U' (HE I lv fun Lc=>inv Lc/\μ Lc<μ ds)
 | U,I,.cut lv v0 vks pre body=>∃inv:List Dt->Prop,pre.holds sp G U (HE I lv inv)/\
   ∀ds,okDs vks ds->inv ds->∃U',Ag v0 U U'/\varsD U' v0 vks=ds/\body.holds sp G U' I
structure Sm where
 f:Nat
 key:Nat
 args:List Sh
 res:List Sh
 tup:Bool
 deriving Repr,Inhabited
def Sm.ks(s:Sm):List CK:=s.res.flatMap (·.cks)
def Sm.inp(s:Sm):Option (List CE×Nat):=match s.args,s.res with
 |[.one (.sl ks ty)],[]=>ZA (ks,ty)
 |_,_=>ZE
structure TI where
 agg:Bool
 size:Nat
 zero:List C
 fields:List (Nat×Nat)
 arr:Option (Nat×Nat)
 ik:Option IntKind
 eqok:Bool
 isb:Bool
 sle:Option Nat
 bytes:Nat
 fnt:Bool
 mapt:Option (Nat×Nat)
 keyok:Bool
 kd:Nat
 deriving Repr,Inhabited
structure Kw where
 pc:List (E×Bool)
 log:List (Nat×E×Nat)
 vk:List VK
 lv:Nat
 deriving Repr,Inhabited
structure KwGe(a b:Kw):Prop where
 lv:a.lv=b.lv
 vk:b.vk.length<=a.vk.length
def KwGe.refl(a:Kw):KwGe a a:=⟨rfl,ZK _⟩
def KwGe.trans{a b c:Kw}(h:KwGe a b)(h':KwGe b c):KwGe a c:=⟨h.lv.trans h'.lv,cX h'.vk h.vk⟩
inductive Pl where
 |top (t:Nat)
 |tmpI (t:Nat) (k:IntKind)
 |tmpB (t:Nat)
 |tmpA (t:Nat) (ks:List CE)
 |tmpS (t:Nat) (ks:List CE) (ty:Nat)
 |tmpX (t:Nat) (ks:List CE) (ty:Nat)
 |cI (b o:Nat) (k:IntKind)
 |celB (b o:Nat)
 |cT (b o:Nat) (ks:List CE) (ty:Nat)
 |celV (b o:Nat) (ks:List CE) (ty:Nat)
 |cels (b o:Nat) (ks:List CE)
 |only(ks:List Nat)
 |row (id:Nat)
 |gone (id:Nat)
 |ask
 deriving Repr,Inhabited
structure Cx where
 ty:List (Nat×TI)
 sm:List Sm
 res:List Sh
 fb:List (List C)
 hints:List (Nat×List Pl)
 cuts:List (Nat×List Pl)
 fns:List (Nat×Func×List (Nat×List Pl)×List (Nat×List Pl))
def am{α:Type}(n:Nat):List (Nat×α)->Option α
 |[]=>ZE
 |(m,a)::l=>if ZJ m n then ZA a else am n l
def ab{α:Type}{n:Nat}{a:α}:∀{l:List (Nat×α)},am n l=ZA a->(n,a)∈l
 |(m,b)::l,h=>by
   simp only[am]at h;split at h
   next hm=>rw[Ak hm];cases h;exact bR
   .exact cM _ (ab h)
def jX(op:BinOp)(k:IntKind)(a b:E):E:=
 match a,b with
 |.p x,.p y=>.p (Ac op k x y)
 |a,b=>.f op k a b
def ud(U:Env)(op:BinOp)(k:IntKind)(a b:E):(jX op k a b).I U=Ac op k (a.I U) (b.I U):=by unfold jX;split<;>rfl
def T8(k:IntKind)(a:E):E:=
 match a with
 |.p x=>.p (k.wrap x)
 |a=>.F k a
def akB(U:Env)(k:IntKind)(a:E):(T8 k a).I U=k.wrap (a.I U):=by unfold T8;split<;>rfl
def Bt(a b:E):E:=
 match a,b with
 |.p x,.p y=>.tt (decide (x<y))
 |a,b=>if a.same b then .tt ZC else .lt a b
def dq(U:Env)(a b:E):(Bt a b).B U=decide (a.I U<b.I U):=by
 unfold Bt;split
 .rfl
 .split
  next h=>rw[E.same_eq h];simp[E.B]
  .rfl
def Gi(a b:E):E:=
 match a,b with
 |.p x,.p y=>.tt (fC x y)
 |a,b=>if a.same b then .tt ZB else .eq a b
def qh(U:Env)(a b:E):(Gi a b).B U=(a.I U==b.I U):=by
 unfold Gi;split
 .simp[E.B,E.I,uK]
 .split
  next h=>rw[E.same_eq h];simp[E.B]
  .rfl
def ew(a:E):E:=
 match a with
 |.tt b=>.tt (!b)
 |.not a=>a
 |a=>.not a
def di(U:Env)(a:E):(ew a).B U = !a.B U:=by unfold ew;split<;>simp[E.B]
def ib(a b:E):E:=
 match a with
 |.tt ZB=>b
 |.tt ZC=>.tt ZC
 |a=>.and a b
def dQ(U:Env)(a b:E):(ib a b).B U=(a.B U&&b.B U):=by unfold ib;split<;>simp[E.B]
def Sn(a b:E):E:=
 match a,b with
 |.tt ZB,b=>b
 |a,.tt ZB=>a
 |.tt ZC,b=>ew b
 |a,.tt ZC=>ew a
 |a,b=>if a.same b then .tt ZB else .beq a b
def ue(U:Env)(a b:E):(Sn a b).B U=(a.B U==b.B U):=by
 unfold Sn;split
 .simp[E.B]
 .simp[E.B]
 .rw[di];simp only[E.B];cases b.B U<;>rfl
 .rw[di];simp only[E.B];cases a.B U<;>rfl
 .split
  next h=>rw[E.same_eq h];simp[E.B]
  .rfl
def Sw(a b:E):E:=
 match a,b with
 |.p x,.p y=>.p (min x y)
 |a,b=>if a.same b then a else .mn a b
def apW(U:Env)(a b:E):(Sw a b).I U=min (a.I U) (b.I U):=by
 unfold Sw;split
 .rfl
 .split
  next h=>rw[E.same_eq h];omega
  .rfl
def RB(a b:E):E:=
 match a,b with
 |.p x,.p y=>.p (max x y)
 |a,b=>if a.same b then a else .mx a b
def apX(U:Env)(a b:E):(RB a b).I U=max (a.I U) (b.I U):=by
 unfold RB;split
 .rfl
 .split
  next h=>rw[E.same_eq h];omega
  .rfl
def nh(L:LL)(i:Int)(c:Nat)(x:Int):(st L i c x).length=L.length:=by simp[st]
def dG:E->E
 |.ln=>.p 0
 |.lset a _ _ _=>dG a
 |.lsetb a _ _ _=>dG a
 |.lput a _ _=>dG a
 |.lq a r=>match dG a with
   |.p z=>.p (z+1)
   |_=>.len (.lq a r)
 |.lcat a b=>match dG a,dG b with
   |.p y,.p z=>.p (y+z)
   |_,_=>.len (.lcat a b)
 |.lrep n r=>match n with
   |.p z=>if decide (0<=z)then .p z else .len (.lrep n r)
   |n=>.len (.lrep n r)
 |.ltake a n=>match dG a,n with
   |.p y,.p z=>.p (if decide (z<=0)then 0 else if decide (z<=y)then z else y)
   |_,_=>.len (.ltake a n)
 |.ldrop a n=>match dG a,n with
   |.p y,.p z=>.p (if decide (z<=0)then y else if decide (z<=y)then y-z else 0)
   |_,_=>.len (.ldrop a n)
 |a=>.len a
def dP(U:Env):∀a:E,(dG a).I U=((a.R U).length:Int):=by
 intro a
 induction a<;>simp only[dG]<;>first|rfl|skip
 case lset ih _ _=>rw[ih];simp[E.R,nh]
 case lsetb ih _ _=>rw[ih];simp[E.R,nh]
 case lput ih _ _=>rw[ih];simp[E.R]
 case lq ih _=>
  split
  next z hz=>rw[hz]at ih;simp only[E.I]at ih;simp[E.R,E.I,ih]
  .rfl
 case lcat Es Ee=>
  split
  next y z hy hz=>rw[hy]at Es;rw[hz]at Ee;simp only[E.I]at Es Ee;simp[E.R,E.I,Es,Ee]
  .rfl
 case lrep n r _ _=>
  split
  .rename_i z;split
   next h=>have:=Ah h;simp[E.R,E.I];omega
   .rfl
  .rfl
 case ltake a n ih _=>
  split
  .rename_i y z hy _;rw[hy]at ih;simp only[E.I]at ih;simp only[E.R,E.I,List.length_take];split
   next h=>have:=Ah h;omega
   .rename_i h;have h1:¬z<=0:=fun h2=>h (dg h2);split
    next h2=>have:=Ah h2;omega
    next h2=>have h3:¬z<=y:=fun h4=>h2 (dg h4);omega
  .rfl
 case ldrop a n ih _=>
  split
  .rename_i y z hy _;rw[hy]at ih;simp only[E.I]at ih;simp only[E.R,E.I,List.length_drop];split
   next h=>have:=Ah h;omega
   .rename_i h;have h1:¬z<=0:=fun h2=>h (dg h2);split
    next h2=>have:=Ah h2;omega
    next h2=>have h3:¬z<=y:=fun h4=>h2 (dg h4);omega
  .rfl
def apY(L:LL)(key:List Int):0<=Ge L key/\Ge L key<=(L.length:Int):=by unfold Ge;have:=List.findIdx_le_length (p:=fun r:List Int=>r.take key.length==key) (xs:=L);omega
def UZ:(Lit.int k z).wf=Ae k z:=rfl
def mI(k:IntKind)(z:Int):Ae k (k.wrap z)=ZB:=wf_wrap k z
def abM(op:BinOp)(k:IntKind)(x y:Int):Ae k (bits op k x y)=ZB:=wf_bits op k x y
def bA:Ae k z=ZB↔k.min<=z/\z<=k.max:=by simp[Ae]
def ahq(k:IntKind):k.min<=0:=by cases k<;>decide
def aht(k:IntKind):0<=k.max:=by cases k<;>decide
def kJ(k:IntKind):Ae k 0=ZB:=bA.2 ⟨ahq k,aht k⟩
def E.lenok(vk:List VK):E->Bool
 |.g n=>match vk[n]? with|some (.list _)=>ZB|_=>ZC
 |.ln=>ZB
 |.lset a _ _ _|.lsetb a _ _ _|.lput a _ _|.ltake a _|.ldrop a _=>a.lenok vk
 |_=>ZC
mutual
def E.rng(vk:List VK)(k:IntKind):E->Bool
 |.p z=>Ae k z
 |.w n=>match vk[n]? with|some (.int k')=>bE k' k|_=>ZC
 |.f op k' a _=>bE k' k&&(match op with|.add|.sub|.mul|.quo|.shl|.and|.or|.xor|.andNot=>ZB|.rem|.shr=>a.rng vk k|_=>ZC)
 | .F k' _=>bE k' k
 |.mn a b=>a.rng vk k&&b.rng vk k
 |.mx a b=>a.rng vk k&&b.rng vk k
 |.len a=>bE .i64 k&&a.lenok vk
 |.get a _ c=>a.col vk k c
 |.mix l _=>bE .i64 k&&l.lenok vk
 |.nth _ l=>l.lrng vk k
 |.ite _ a b=>a.rng vk k&&b.rng vk k
 |_=>ZC
 termination_by structural x=>x
def E.col(vk:List VK)(k:IntKind)(c:Nat):E->Bool
 |.g n=>match vk[n]? with|some (.list ks)=>(match ks[c]? with|some (ZA k')=>bE k' k|_=>ZC)|_=>ZC
 |.ln=>ZB
 |.lset a _ c' x=>a.col vk k c&&(!ZJ c' c||x.rng vk k)
 |.lsetb a _ c' _=>a.col vk k c &&!ZJ c' c
 |.lq a r=>a.col vk k c&&r.rcol vk k c
 |.lput a _ r=>a.col vk k c&&r.rcol vk k c
 |.lcat a b=>a.col vk k c&&b.col vk k c
 |.lrep _ r=>r.rcol vk k c
 |.ltake a _|.ldrop a _=>a.col vk k c
 |_=>ZC
 termination_by structural x=>x
def E.rcol(vk:List VK)(k:IntKind)(c:Nat):E->Bool
 |.cons a t=>match c with|0=>a.rng vk k|c+1=>t.rcol vk k c
 |.j _ t=>match c with|0=>ZC|c+1=>t.rcol vk k c
 |.nil=>ZB
 |_=>ZC
 termination_by structural x=>x
def E.lrng(vk:List VK)(k:IntKind):E->Bool
 |.nil=>ZB
 |.cons a t=>a.rng vk k&&t.lrng vk k
 |_=>ZC
 termination_by structural x=>x
end
def iT(vk:List VK)(b d:Nat):List CE:=match vk[b]? with
 |some (.list ks)=>ks.drop d
 |_=>[]
structure Rm where
 q:List VK
 n:Nat
 g:List CE
 a:Nat
 c:Nat
 q2:List VK
 n2:Nat
structure Rm.ok(vk:List VK)(m:Rm):Prop where
 q:m.q=vk.drop m.n
 g:m.g=iT vk m.a m.c
 q2:m.q2=vk.drop m.n2
def Rm.ini(vk:List VK):Rm:=⟨vk,0,iT vk 0 0,0,0,vk,0⟩
def Rm.ini_ok(vk:List VK):(Rm.ini vk).ok vk:=⟨rfl,rfl,rfl⟩
def E.rngW0(vk:List VK)(k:IntKind)(m:Rm)(e:E):Option Rm:=match e with
 |.w i=>match(bif ZJ i m.n then m.q else vk.drop i)with
   |.int k'::q'=>if bE k' k then ZA ⟨q',i+1,m.g,m.a,m.c,m.q2,m.n2⟩else ZE
   |_=>ZE
 |.get (.g b) _ d=>match(bif ZJ b m.a&&ZJ d m.c then m.g else iT vk b d)with
   |some k'::g'=>if bE k' k then ZA ⟨m.q,m.n,g',b,d+1,m.q2,m.n2⟩else ZE
   |_=>ZE
 |e=>if e.rng vk k then ZA m else ZE
def E.rngW(vk:List VK)(k:IntKind)(m:Rm)(e:E):Option Rm:=match e with
 |.ite _ (.w i) b=>match(bif ZJ i m.n2 then m.q2 else vk.drop i)with
   |.int k'::q'=>if bE k' k then(b.rngW0 vk k m).map fun m'=>⟨m'.q,m'.n,m'.g,m'.a,m'.c,q',i+1⟩else ZE
   |_=>ZE
 |e=>e.rngW0 vk k m
def qy{α:Type}{l:List α}{n:Nat}{x:α}{r:List α}(h:l.drop n=x::r):l[n]? =ZA x/\r=l.drop (n+1):=by
 refine⟨?_,?_⟩
 .have:=congrArg (fun l=>l[0]?) h;simpa using this
 .have:=congrArg List.tail h;simpa using this.symm
def aa8{vk:List VK}{m m':Rm}{e:E}(hm:m.ok vk)(h:e.rngW0 vk k m=ZA m'):e.rng vk k=ZB/\m'.ok vk:=by
 unfold E.rngW0 at h;split at h
 .rename_i i;have hq:(bif ZJ i m.n then m.q else vk.drop i)=vk.drop i:=by
   cases hb:ZJ i m.n with
   |false=>rfl
   |true=>rw[Ak hb];exact hm.q
  rw[hq]at h;split at h
  .rename_i k' q' hd;obtain⟨h0,h1⟩:=qy hd;split at h
   next hk=>cases h;refine⟨?_,h1,hm.g,hm.q2⟩;unfold E.rng;rw[h0];exact hk
   .exact Xo
  .exact Xo
 .rename_i b i d;have hq:(bif ZJ b m.a&&ZJ d m.c then m.g else iT vk b d)=iT vk b d:=by
   cases hb:ZJ b m.a&&ZJ d m.c with
   |false=>rfl
   |true=>rw[ne]at hb;rw[Ak hb.1,Ak hb.2];exact hm.g
  rw[hq]at h;split at h
  .rename_i k' g' hd;split at h
   .rename_i hk;cases h;unfold iT at hd;split at hd
    .rename_i ks CH;obtain⟨h0,h1⟩:=qy hd;refine⟨?_,hm.q,?_,hm.q2⟩
     .unfold E.rng E.col;rw[CH];simp only[h0];exact hk
     .unfold iT;rw[CH];exact h1
    .cases hd
   .exact Xo
  .exact Xo
 .split at h
  next hr=>cases h;exact⟨hr,hm⟩
  .exact Xo
def yF{vk:List VK}{m m':Rm}{e:E}(hm:m.ok vk)(h:e.rngW vk k m=ZA m'):e.rng vk k=ZB/\m'.ok vk:=by
 unfold E.rngW at h;split at h
 .rename_i x i b;have hq:(bif ZJ i m.n2 then m.q2 else vk.drop i)=vk.drop i:=by
   cases hb:ZJ i m.n2 with
   |false=>rfl
   |true=>rw[Ak hb];exact hm.q2
  rw[hq]at h;split at h
  .rename_i k' q' hd;obtain⟨h0,h1⟩:=qy hd;split at h
   .rename_i hk;rw[Ay]at h;obtain⟨m2,h2,rfl⟩:=h;obtain⟨h3,h4⟩:=aa8 hm h2;refine⟨?_,h4.q,h4.g,h1⟩;have h5:(E.w i).rng vk k=ZB:=by
     unfold E.rng;rw[h0];exact hk
    show((E.w i).rng vk k&&b.rng vk k)=ZB;rw[h5,h3];rfl
   .exact Xo
  .exact Xo
 .exact aa8 hm h
def E.rok0(vk:List VK):List CE->E->Bool
 |[],.nil=>ZB
 |some k::ks,.cons a t=>a.rng vk k&&t.rok0 vk ks
 |none::ks,.j _ t=>t.rok0 vk ks
 |_,_=>ZC
def E.rokW(vk:List VK):List CE->E->Rm->Bool
 |[],.nil,_=>ZB
 |some k::ks,.cons a t,m=>match a.rngW vk k m with
   |some m'=>E.rokW vk ks t m'
   |none=>ZC
 |none::ks,.j _ t,m=>E.rokW vk ks t m
 |_,_,_=>ZC
def apo{vk:List VK}:∀{ks:List CE} {e:E} {m:Rm},m.ok vk->E.rokW vk ks e m=ZB->e.rok0 vk ks=ZB:=by
 intro ks
 induction ks with
 |nil=>intro e m _ h;cases e<;>first|rfl|cases h
 |cons k ks ih=>
   intro e m hm h;cases k with
   |none=>cases e<;>first|cases h|exact ih hm h
   |some k=>
     cases e<;>first|cases h|skip
     simp only[E.rokW]at h;split at h
     next m' hw=>obtain⟨h1,h2⟩:=yF hm hw;simp only[E.rok0,h1,ih h2 h,Bool.and_self]
     .exact Xo
def E.rok(vk:List VK)(ks:List CE)(e:E):Bool:=E.rokW vk ks e (Rm.ini vk)
def dc:List CE->List CE->Bool
 |[],[]=>ZB
 |some k::l,ZA k'::r=>bE k k'&&dc l r
 |none::l,ZE::r=>dc l r
 |_,_=>ZC
def E.lok(vk:List VK)(ks:List CE):E->Bool
 |.g n=>match vk[n]? with|some (.list ks')=>dc ks' ks|_=>ZC
 |.ln=>ZB
 |.lset a _ c x=>a.lok vk ks&&(match ks[c]? with|some (ZA k)=>x.rng vk k|_=>ZC)
 |.lsetb a _ c _=>a.lok vk ks&&(match ks[c]? with|some ZE=>ZB|_=>ZC)
 |.lq a r=>a.lok vk ks&&r.rok vk ks
 |.lput a _ r=>a.lok vk ks&&r.rok vk ks
 |.lcat a b=>a.lok vk ks&&b.lok vk ks
 |.lrep _ r=>r.rok vk ks
 |.ltake a _|.ldrop a _=>a.lok vk ks
 |_=>ZC
structure Vk(U:Env)(vk:List VK):Prop where
 i:∀n k,vk[n]? =ZA (.int k)->Ae k (U.i n)=ZB
 l:∀n ks,vk[n]? =ZA (.list ks)->RowsIn ks (U.l n)
def aew(n:Nat)(b:Int):0<=(n:Int).tmod b/\(n:Int).tmod b<=n:=by
 have h2:0<=(n:Int).tmod b:=Int.tmod_nonneg _ Fn;have h1:((n:Int).tmod b).natAbs=n % b.natAbs:=by rw[Int.natAbs_tmod];rfl
 have h3:=Nat.mod_le n b.natAbs;have h4:=Int.natAbs_of_nonneg h2;omega
def ajy{b:Int}:(0<=a->0<=a.tmod b/\a.tmod b<=a)/\(a<=0->a<=a.tmod b/\a.tmod b<=0):=by
 constructor
 .intro h;obtain⟨n,rfl⟩:=cd h;exact aew n b
 .intro h;obtain⟨n,hn⟩:=cd (show 0 <= -a by omega);have ha:a = -(n:Int):=Fn;subst ha;rw[Int.neg_tmod];have:=aew n b;omega
def aln{n:Nat}:(0<=a->0<=a.fdiv (2 ^ n)/\a.fdiv (2 ^ n)<=a)/\(a<=0->a<=a.fdiv (2 ^ n)/\a.fdiv (2 ^ n)<=0):=by
 have hp:(0:Int)<2 ^ n:=Int.pow_pos Fn;rw[Int.fdiv_eq_ediv_of_nonneg _ Fn];constructor
 .intro h;exact⟨Int.ediv_nonneg h Fn,Int.ediv_le_self _ h⟩
 .intro h;refine⟨?_,Int.ediv_nonpos_of_nonpos_of_neg h hp⟩;rw[Int.le_ediv_iff_mul_le hp];have h1:(1:Int)<=2 ^ n:=Fn;have:=Int.mul_le_mul_of_nonpos_left h h1;omega
def cJ:∀{a b:List CE},dc a b=ZB->a=b
 |[],[],_=>rfl
 |some k::l,ZA k'::r,h=>by simp only[dc,ne]at h;rw[ar h.1,cJ h.2]
 |none::l,ZE::r,h=>by rw[cJ (a:=l) (b:=r) h]
def CR(ks:List CE):RK:=if dc ks Do then .ev else .sl
def cC(ks:List CE):(ks=Do/\CR ks=.ev)\/(dc ks Do=ZC/\CR ks=.sl):=by
 unfold CR;cases h:dc ks Do with
 |true=>exact .inl ⟨cJ h,rfl⟩
 |false=>exact .inr ⟨rfl,rfl⟩
def RK.isEv:RK->Bool
 |.ev=>ZB
 |_=>ZC
def RK.isEv_eq{k:RK}(h:k.isEv=ZB):k=.ev:=by cases k<;>first|rfl|cases h
def RK.fits(k:RK)(ks:List CE):Bool:=match k with
 |.sl=>!dc ks Do
 |.ev=>dc ks Do
 |_=>ZC
def RK.fits_eq{k:RK}{ks:List CE}(h:k.fits ks=ZB):k=CR ks:=by
 unfold RK.fits at h;unfold CR;split at h
 .rw[if_neg Xx]
 .rw[if_pos h]
 .exact Xo
def pR{ks:List CE}(h:av ks r=ZB){k:CE}(hc:ks[c]? =ZA k):Dn k (r.getD c 0)=ZB:=by
 induction ks generalizing r c with
 |nil=>simp at hc
 |cons k0 ks ih=>
   cases r with
   |nil=>cases h
   |cons x xs=>
     simp only[av,ne]at h;cases c with
     |zero=>simp at hc;subst hc;exact h.1
     |succ c=>simpa using ih h.2 Yq
def gL{ks:List CE}(h:av ks r=ZB):r.length=ks.length:=by
 induction ks generalizing r with
 |nil=>cases r with
   |nil=>rfl
   |cons=>cases h
 |cons k0 ks ih=>cases r with
   |nil=>cases h
   |cons x xs=>simp only[av,ne]at h;simp[ih h.2]
def pQ{ks:List CE}(h:av ks r=ZB){k:CE}(hc:ks[c]? =ZA k){x:Int}(hx:Dn k x=ZB):av ks (r.set c x)=ZB:=by
 induction ks generalizing r c with
 |nil=>simp at hc
 |cons k0 ks ih=>
   cases r with
   |nil=>cases h
   |cons y ys=>
     simp only[av,ne]at h;cases c with
     |zero=>simp at hc;subst hc;simp[av,hx,h.2]
     |succ c=>simp[av,h.1,ih h.2 Yq]
def aqM{L:LL}(h:∀r∈L,Ae k (r.getD c 0)=ZB)(i:Int):Ae k (gt L i c)=ZB:=by
 unfold gt;cases hr:L[i.toNat]? with
 |none=>rw[show L.getD i.toNat []=[]from by rw[bV,hr];rfl];exact kJ k
 |some r=>rw[show L.getD i.toNat []=r from by rw[bV,hr];rfl];exact h r (fD hr)
def wM{L:LL}{i:Int}{x:Int}(h:r∈st L i c x):r∈L\/(∃r0∈L,r=r0.set c x):=by
 unfold st at h;rcases List.mem_or_eq_of_mem_set h with h1|h1
 .exact .inl h1
 .by_cases hi:i.toNat<L.length
  .refine .inr ⟨L[i.toNat],List.getElem_mem _,?_⟩;rw[h1,bV,AH hi];rfl
  .rw[List.set_eq_of_length_le Fn]at h;exact .inl h
def ix(L:LL)(i:Int)(c:Nat)(x:Int):(st L i c x).length=L.length:=by simp[st]
def aau{c':Nat}{x:Int}(h:c'≠c):(r.set c' x).getD c 0=r.getD c 0:=by simp[bV,pp h]
def tC{x:Int}(hx:Ae k x=ZB):Ae k ((r.set c x).getD c 0)=ZB:=by
 rw[bV,ef];simp only[if_true];split
 .exact Xz
 .simpa using kJ k
def abC{U:Env}{vk:List VK}(hv:Vk U vk):∀(e:E),e.lenok vk=ZB->(e.R U).length<=maxLen:=by
 intro e
 induction e<;>intro h<;>simp only[E.lenok]at h<;>first|cases h|skip
 case g n=>
  split at h
  next ks hk=>exact(hv.l n ks hk).len
  .exact Xo
 case ln=>simp[E.R]
 case lset ih _ _=>simpa[E.R,ix]using ih h
 case lput ih _ _=>simpa[E.R]using ih h
 case lsetb ih _ _=>simpa[E.R,ix]using ih h
 case ltake ih _=>exact cX (by simp only[E.R,List.length_take];omega) (ih h)
 case ldrop ih _=>exact cX (by simp[E.R]) (ih h)
def E.rngs_ok{U:Env}{vk:List VK}(hv:Vk U vk):∀(e:E),(∀k,e.rng vk k=ZB->Ae k (e.I U)=ZB)/\(∀k c,e.col vk k c=ZB->∀r∈e.R U,Ae k (r.getD c 0)=ZB)/\(∀k c,e.rcol vk k c=ZB->Ae k ((e.L U).getD c 0)=ZB)/\(∀k,e.lrng vk k=ZB->∀x∈e.L U,Ae k x=ZB):=by
 intro e
 induction e<;>refine⟨fun k h=> ?_,fun k c h=> ?_,fun k c h=> ?_,fun k h=> ?_⟩<;>(try simp only[E.rng,E.col,E.rcol,E.lrng]at h)<;>first|exact Bool.noConfusion h|skip
 case p.refine_1=>exact h
 case w.refine_1 n=>
  split at h
  next k' hk=>have:=hv.i n k' hk;rw[ar h]at this;exact this
  .exact Xo
 case f.refine_1 op k' a b iha ihb=>
  rw[ne]at h;obtain⟨h1,h2⟩:=h;have:=ar h1;subst this;have tail:∀x:Int,a.rng vk k'=ZB->((0<=a.I U->0<=x/\x<=a.I U)/\(a.I U<=0->a.I U<=x/\x<=0))->Ae k' x=ZB:=by
   intro x ha hx;have h3:=bA.1 (iha.1 k' ha);have:=ahq k';have:=aht k';rw[bA];by_cases h0:0<=a.I U
   .have:=hx.1 h0;omega
   .have:=hx.2 Fn;omega
  simp only[E.I];cases op<;>first
   |exact mI _ _
   |exact abM _ _ _ _
   |exact tail _ h2 ajy
   |exact tail _ h2 aln
   |cases h2
 case F.refine_1 k' a _=>rw[<-ar h];exact mI _ _
 case mn.refine_1 a b iha ihb=>rw[ne]at h;have h1:=bA.1 (iha.1 k h.1);have h2:=bA.1 (ihb.1 k h.2);rw[bA];simp only[E.I];omega
 case mx.refine_1 a b iha ihb=>rw[ne]at h;have h1:=bA.1 (iha.1 k h.1);have h2:=bA.1 (ihb.1 k h.2);rw[bA];simp only[E.I];omega
 case len.refine_1 a _=>rw[ne]at h;have h1:=abC hv a h.2;rw[<-ar h.1,bA];simp only[E.I,maxLen]at h1 ⊢;simp only[IntKind.min,IntKind.max,YV,ZX];simp;omega
 case get.refine_1 a i c iha _=>exact aqM (iha.2.1 k c h) _
 case mix.refine_1 l key _ _=>rw[ne]at h;have h1:=abC hv l h.2;have h2:=apY (l.R U) (key.L U);rw[<-ar h.1,bA];simp only[E.I,maxLen]at h1 ⊢;simp only[IntKind.min,IntKind.max,YV,ZX];simp;omega
 case nth.refine_1 i l _ ihl=>
  simp only[E.I];rw[bV];cases hx:(l.L U)[(i.I U).toNat]? with
  |none=>exact kJ k
  |some x=>exact ihl.2.2.2 k h x (fD hx)
 case ite.refine_1 c a b _ iha ihb=>
  rw[ne]at h;simp only[E.I];split
  .exact iha.1 k h.1
  .exact ihb.1 k h.2
 case nil.refine_4=>intro x hx;simp[E.L]at hx
 case cons.refine_4 a t iha HF=>
  rw[ne]at h;intro x hx;simp only[E.L,YT]at hx;rcases hx with rfl|hx
  .exact iha.1 k h.1
  .exact HF.2.2.2 k h.2 x hx
 case nil.refine_3=>simpa[E.L]using kJ k
 case cons.refine_3 a t iha HF=>
  cases c with
  |zero=>simpa[E.L]using iha.1 k h
  |succ c=>simpa[E.L]using HF.2.2.1 k c h
 case j.refine_3 b t _ HF=>
  cases c with
  |zero=>cases h
  |succ c=>simpa[E.L]using HF.2.2.1 k c h
 case g.refine_2 n=>
  split at h
  .rename_i ks CH;split at h
   next k' hk=>intro r hr;have:=pR ((hv.l n ks CH).row r hr) hk;rw[ar h]at this;exact this
   .exact Xo
  .exact Xo
 case ln.refine_2=>intro r hr;cases hr
 case lset.refine_2 a i c' x iha _ ihx=>
  rw[ne]at h;intro r hr;rcases wM hr with hr|⟨r0,G5,rfl⟩
  .exact iha.2.1 k c h.1 r hr
  .by_cases hc:c'=c
   .subst hc;have h2:=h.2;rw[show ZJ c' c'=ZB from by simp]at h2;exact tC (ihx.1 k XR)
   .rw[aau hc];exact iha.2.1 k c h.1 r0 G5
 case lsetb.refine_2 a i c' x iha _ _=>
  rw[ne]at h;intro r hr;have hc:c'≠c:=fun e=>by have:=h.2;rw[e]at this;simp at this
  rcases wM hr with hr|⟨r0,G5,rfl⟩
  .exact iha.2.1 k c h.1 r hr
  .rw[aau hc];exact iha.2.1 k c h.1 r0 G5
 case lput.refine_2 a i r iha _ ihr=>
  rw[ne]at h;intro x hx;rcases List.mem_or_eq_of_mem_set hx with hx|rfl
  .exact YM
  .exact ihr.2.2.1 k c h.2
 case lq.refine_2 a r iha ihr=>
  rw[ne]at h;intro x hx;simp only[E.R,List.mem_append,dv]at hx;rcases hx with hx|rfl
  .exact YM
  .exact ihr.2.2.1 k c h.2
 case lcat.refine_2 a b iha ihb=>
  rw[ne]at h;intro x hx;simp only[E.R,List.mem_append]at hx;rcases hx with hx|hx
  .exact YM
  .exact ihb.2.1 k c h.2 x hx
 case lrep.refine_2 n r _ ihr=>intro x hx;simp only[E.R,List.mem_replicate]at hx;rw[hx.2];exact ihr.2.2.1 k c h
 case ltake.refine_2 a n iha _=>intro x hx;exact iha.2.1 k c h x (List.mem_of_mem_take hx)
 case ldrop.refine_2 a n iha _=>intro x hx;exact iha.2.1 k c h x (List.mem_of_mem_drop hx)
def E.rng_ok{U:Env}{vk:List VK}(hv:Vk U vk)(e:E)(h:e.rng vk k=ZB):Ae k (e.I U)=ZB:=(E.rngs_ok hv e).1 k h
def E.rok0_ok{U:Env}{vk:List VK}(hv:Vk U vk):∀{ks:List CE} {e:E},e.rok0 vk ks=ZB->av ks (e.L U)=ZB:=by
 intro ks
 induction ks with
 |nil=>intro e h;cases e<;>first|rfl|cases h
 |cons k ks ih=>
   intro e h;cases k with
   |none=>
     cases e<;>first|cases h|skip
     simp only[E.rok0]at h;rename_i b t;simp only[E.L,av,ne];exact⟨by cases b.B U<;>rfl,ih h⟩
   |some k=>
     cases e<;>first|cases h|skip
     simp only[E.rok0,ne]at h;simp only[E.L,av,ne];exact⟨E.rng_ok hv _ h.1,ih h.2⟩
def E.rok_ok{U:Env}{vk:List VK}(hv:Vk U vk){ks:List CE}{e:E}(h:e.rok vk ks=ZB):av ks (e.L U)=ZB:=E.rok0_ok hv (apo (Rm.ini_ok vk) h)
def aiV(b:Bool):Dn ZE (AE b)=ZB:=by cases b<;>rfl
def E.lok_ok{U:Env}{vk:List VK}(hv:Vk U vk){ks:List CE}:∀(e:E),e.lok vk ks=ZB->∀r∈e.R U,av ks r=ZB:=by
 intro e
 induction e<;>intro h<;>simp only[E.lok]at h<;>first|exact Bool.noConfusion h|skip
 case g n=>
  split at h
  next ks' hk=>rw[<-cJ h];exact(hv.l n ks' hk).row
  .exact Xo
 case ln=>intro r hr;cases hr
 case lset a i c x iha _ _=>
  rw[ne]at h;intro r hr;rcases wM hr with hr|⟨r0,G5,rfl⟩
  .exact iha h.1 r hr
  .have h2:=h.2;split at h2
   next k hk=>exact pQ (iha h.1 r0 G5) hk (E.rng_ok hv x h2)
   .exact XU
 case lsetb a i c x iha _ _=>
  rw[ne]at h;intro r hr;rcases wM hr with hr|⟨r0,G5,rfl⟩
  .exact iha h.1 r hr
  .have h2:=h.2;split at h2
   next hk=>exact pQ (iha h.1 r0 G5) hk (aiV _)
   .exact XU
 case lput a i r iha _ _=>
  rw[ne]at h;intro x hx;rcases List.mem_or_eq_of_mem_set hx with hx|rfl
  .exact iha h.1 x hx
  .exact E.rok_ok hv h.2
 case lq a r iha _=>
  rw[ne]at h;intro x hx;simp only[E.R,List.mem_append,dv]at hx;rcases hx with hx|rfl
  .exact iha h.1 x hx
  .exact E.rok_ok hv h.2
 case lcat a b iha ihb=>
  rw[ne]at h;intro x hx;simp only[E.R,List.mem_append]at hx;rcases hx with hx|hx
  .exact iha h.1 x hx
  .exact ihb h.2 x hx
 case lrep n r _ _=>intro x hx;simp only[E.R,List.mem_replicate]at hx;rw[hx.2];exact E.rok_ok hv h
 case ltake a n iha _=>intro x hx;exact iha h x (List.mem_of_mem_take hx)
 case ldrop a n iha _=>intro x hx;exact iha h x (List.mem_of_mem_drop hx)
def Kw.look(e:E):List (E×Bool)->Option Bool
 |[]=>ZE
 |(x,b)::l=>if x.same e then ZA b else Kw.look e l
structure Good(sp:Spec)(sm:List Sm)(U:Env)(kw:Kw):Prop where
 pc:∀p∈kw.pc,p.1.B U=p.2
 vk:Vk U kw.vk
 log:∀p∈kw.log,∃s∈sm,s.key=p.1/\sp.pre s.key (p.2.1.D U)/\eqs U (sp.F s.key (p.2.1.D U)) p.2.2 0 s.ks
def ahk{U:Env}{e:E}{b:Bool}:∀{l:List (E×Bool)},(∀p∈l,p.1.B U=p.2)->Kw.look e l=ZA b->e.B U=b
 |(x,c)::l,hl,h=>by
   simp only[Kw.look]at h;split at h
   next hs=>have:=hl (x,c) bR;rw[<-E.same_eq hs];cases h;exact this
   .exact ahk (fun p hp=>hl p (cM _ hp)) h
def agD(vk:List VK):E->Option Bool
 |.lt (.p z) (.w n)=>match vk[n]? with
   |some (.int k)=>if decide (k.max<=z)then ZA ZC else ZE
   |_=>ZE
 |.lt (.w n) (.p z)=>match vk[n]? with
   |some (.int k)=>if decide (z<=k.min)then ZA ZC else ZE
   |_=>ZE
 |.lt (.len _) (.p z)=>if decide (z<=0)then ZA ZC else ZE
 |_=>ZE
def agC{U:Env}{vk:List VK}(hv:Vk U vk){e:E}{b:Bool}(h:agD vk e=ZA b):e.B U=b:=by
 unfold agD at h;split at h
 .split at h
  .rename_i k hk;split at h
   next hz=>cases h;have h1:=bA.1 (hv.i _ _ hk);have h2:=Ah hz;simp only[E.B,E.I];exact eY Fn
   .exact Xo
  .exact Xo
 .split at h
  .rename_i k hk;split at h
   next hz=>cases h;have h1:=bA.1 (hv.i _ _ hk);have h2:=Ah hz;simp only[E.B,E.I];exact eY Fn
   .exact Xo
  .exact Xo
 .split at h
  next hz=>cases h;have h2:=Ah hz;simp only[E.B,E.I];exact eY Fn
  .exact Xo
 .exact Xo
def SI(a:E)(y:Int):List (E×Bool)->Bool
 |[]=>ZC
 |(.eq a' (.p x),ZB)::l=>(!fC x y&&a'.same a)||SI a y l
 |_::l=>SI a y l
def amF:List (E×Bool)->Bool
 |[]=>ZC
 |[(.tt ZB,ZB)]=>ZB
 |_::l=>amF l
def Kw.ex(e:E)(pc:List (E×Bool)):Option Bool:=match e with
 |.eq a (.p y)=>if amF pc&&SI a y pc then ZA ZC else ZE
 |_=>ZE
def abY{U:Env}{a:E}{y:Int}:∀{l:List (E×Bool)},(∀p∈l,p.1.B U=p.2)->SI a y l=ZB->(E.eq a (.p y)).B U=ZC
 |p::l,hp,h=>by
   have ih:=abY (a:=a) (y:=y) (l:=l) (fun q hq=>hp q (cM _ hq));unfold SI at h;split at h
   next h0=>cases h0
   .rename_i a' x l' h0;cases h0;rw[fk,ne]at h;rcases h with h|h
    .have h1:=hp _ bR;simp only[E.B,E.I,cL]at h1;simp only[E.B,E.I,beq_eq_false_iff_ne];intro h2;rw[<-E.same_eq h.2,h1]at h2;subst h2;have h3:fC x x=ZB:=by rw[uK];exact beq_self_eq_true x
     rw[h3]at h;cases h.1
    .exact ih h
   next h0=>cases h0;exact ih h
def avJ{U:Env}{e:E}{b:Bool}{l:List (E×Bool)}(hp:∀p∈l,p.1.B U=p.2)(h:Kw.ex e l=ZA b):e.B U=b:=by
 unfold Kw.ex at h;split at h
 .split at h
  next hq=>cases h;exact abY hp (ne _ _ |>.mp hq).2
  .exact Xo
 .exact Xo
def OR(e:E)(k:Bool->Kw->Tr)(kw:Kw):Tr:=
 match agD kw.vk e with
 |some b=>k b kw
 |none=>match Kw.look e kw.pc with
 |some b=>k b kw
 |none=>match Kw.ex e kw.pc with
 |some b=>k b kw
 |none=>.br e (k ZB {kw with pc:=(e,ZB)::kw.pc}) (k ZC {kw with pc:=(e,ZC)::kw.pc})
def AL:E->(Bool->Kw->Tr)->Kw->Tr
 |.tt b,k,kw=>k b kw
 |.not a,k,kw=>AL a (fun b kw=>k (!b) kw) kw
 |.and a b,k,kw=>AL a (fun x kw=>if x then AL b k kw else k ZC kw) kw
 |e,k,kw=>OR e k kw
section
variable {sp:Spec}{sm:List Sm}{U:Env}{G:Env->E->Prop}{I:Nat->List Dt->Prop}
def aqZ{e:E}{k:Bool->Kw->Tr}{kw:Kw}(h:(OR e k kw).holds sp G U I)(hg:Good sp sm U kw):∃An,(k (e.B U) An).holds sp G U I/\Good sp sm U An/\An.vk=kw.vk/\KwGe An kw:=by
 unfold OR at h;split at h
 next b hb=>rw[agC hg.vk hb];exact⟨kw,h,hg,rfl,.refl _⟩
 split at h
 next b hb=>rw[ahk hg.pc hb];exact⟨kw,h,hg,rfl,.refl _⟩
 split at h
 next b hb=>rw[avJ hg.pc hb];exact⟨kw,h,hg,rfl,.refl _⟩
 .cases hb:e.B U with
  |true=>exact⟨_,h.1 hb,⟨fun p hp=>by
    rcases YT.1 hp with rfl|hp
    .exact hb
    .exact hg.pc p hp,hg.vk,hg.log⟩,rfl,rfl,ZK _⟩
  |false=>exact⟨_,h.2 hb,⟨fun p hp=>by
    rcases YT.1 hp with rfl|hp
    .exact hb
    .exact hg.pc p hp,hg.vk,hg.log⟩,rfl,rfl,ZK _⟩
def aS:∀(e:E) (k:Bool->Kw->Tr) (kw:Kw),(AL e k kw).holds sp G U I->Good sp sm U kw->∃An,(k (e.B U) An).holds sp G U I/\Good sp sm U An/\An.vk=kw.vk/\KwGe An kw
 |.tt b,k,kw,h,hg=>⟨kw,h,hg,rfl,.refl _⟩
 |.not a,k,kw,h,hg=>aS a (fun b kw=>k (!b) kw) kw h hg
 |.and a b,k,kw,h,hg=>by
   obtain⟨Ch,h1,g1,v1,l1⟩:=aS a _ kw h hg;simp only[E.B];cases ha:a.B U with
   |true=>rw[ha]at h1;obtain⟨Dy,h2,g2,v2,l2⟩:=aS b k Ch h1 g1;exact⟨Dy,h2,g2,v2.trans v1,l2.trans l1⟩
   |false=>rw[ha]at h1;exact⟨Ch,h1,g1,v1,l1⟩
 |.p _,k,kw,h,hg|.w _,k,kw,h,hg|.f _ _ _ _,k,kw,h,hg | .F _ _,k,kw,h,hg|.mn _ _,k,kw,h,hg|.mx _ _,k,kw,h,hg|.nil,k,kw,h,hg
 |.len _,k,kw,h,hg|.get _ _ _,k,kw,h,hg | .N _ _,k,kw,h,hg|.getb _ _ _,k,kw,h,hg|.g _,k,kw,h,hg|.ln,k,kw,h,hg|.lset _ _ _ _,k,kw,h,hg|.lsetb _ _ _ _,k,kw,h,hg|.lq _ _,k,kw,h,hg|.lcat _ _,k,kw,h,hg|.lrep _ _,k,kw,h,hg|.ltake _ _,k,kw,h,hg|.ldrop _ _,k,kw,h,hg|.mix _ _,k,kw,h,hg|.lput _ _ _,k,kw,h,hg|.nth _ _,k,kw,h,hg|.ite _ _ _,k,kw,h,hg|.leq _ _,k,kw,h,hg
 |.cons _ _,k,kw,h,hg|.j _ _,k,kw,h,hg|.s _,k,kw,h,hg|.lt _ _,k,kw,h,hg|.eq _ _,k,kw,h,hg|.beq _ _,k,kw,h,hg=>aqZ h hg
end
inductive RE where
 |none
 |set (id:Nat) (r:RowOb)
 |mk (rs:List RowOb)
 |app (old:Nat) (r:RowOb)
 |view (old:Nat) (q r:RowOb)
 |frz (old:Nat) (q r:RowOb)
 |peek (r:RowOb)
 |tset (old:Nat) (q:RowOb) (tab:Nat) (r:RowOb)
 deriving Repr,Inhabited
def ET:Nat->List RowOb->List (Nat×Option RowOb)
 |_,[]=>[]
 |n,r::l=>(n,ZA r)::ET (n+1) l
def RE.rs(nid:Nat):RE->List (Nat×Option RowOb)
 |.none=>[]
 |.set id r=>[(id,ZA r)]
 |.mk rs=>ET nid rs
 |.app old r=>[(old,Option.none),(nid,ZA r)]
 |.view old q r=>[(old,ZA q),(nid,ZA r)]
 |.frz old q r=>[(old,ZA q),(nid,ZA r)]
 |.peek r=>[(nid,ZA r)]
 |.tset old q tab r=>[(old,ZA q),(tab,ZA r)]
def jR(ld:Nat->Nat->Option C)(b:Nat):Nat->Nat->Option (List C)
 |_,0=>ZA []
 |o,n+1=>match ld b o,jR ld b (o+1) n with
   |some c,ZA cs=>ZA (c::cs)
   |_,_=>ZE
def RC:List C->Nat->Option (List C)
 |_,0=>ZA []
 |c::cs,n+1=>(RC cs n).map (c::·)
 |[],_+1=>ZE
def R9:List C->Nat->Nat->Option (List C)
 |cs,0,n=>RC cs n
 |_::cs,o+1,n=>R9 cs o n
 |[],_+1,_=>ZE
def aae{ld:Nat->Nat->Option C}{b:Nat}:∀{n:Nat} {cs ds:List C} {o:Nat},RC cs n=ZA ds->(∀i,ld b (o+i)=cs[i]?)->jR ld b o n=ZA ds
 |0,cs,ds,o,h,_=>by
   have:ds=[]:=by cases cs<;>simpa[RC]using h.symm
   subst this;rfl
 |n+1,c::cs,ds,o,h,hl=>by simp only[RC,Ay]at h;obtain⟨es,h1,rfl⟩:=h;have h2:=aae (ld:=ld) (b:=b) (o:=o+1) h1 (fun i=>by rw[show o+1+i=o+(i+1) by omega,hl];rfl);have h0:=hl 0;simp only[ZS,cy]at h0;simp only[jR,h0,h2]
 |n+1,[],ds,o,h,_=>by cases h
def afo{ld:Nat->Nat->Option C}{b:Nat}{n:Nat}:∀{o k:Nat} {cs ds:List C},R9 cs o n=ZA ds->(∀i,ld b (k+i)=cs[i]?)->jR ld b (k+o) n=ZA ds
 |0,k,cs,ds,h,hl=>aae (cs:=cs) (by cases cs<;>exact h) hl
 |o+1,k,c::cs,ds,h,hl=>by have:=afo (ld:=ld) (b:=b) (o:=o) (k:=k+1) (cs:=cs) (ds:=ds) h (fun i=>by rw[show k+1+i=k+(i+1) by omega,hl];rfl);rwa [show k+(o+1)=k+1+o by omega]
 |o+1,k,[],ds,h,_=>by cases h
structure Vw where
 ev:Operand->Option V
 ld:Nat->Nat->Option C
 rw:Nat->Option RowOb
 fb:Nat->Option (List C)
 nid:Nat
 row:Nat->Nat->Nat->Option (List C)
 rowok:∀b o n cs,row b o n=ZA cs->jR ld b o n=ZA cs
def Vw.sw(vw:Vw)(id:Nat):Option RowOb:=match vw.rw id with
 |some r=>if r.kd.isSl then ZA r else ZE
 |none=>ZE
def Vw.sw_some{vw:Vw}{id:Nat}{r:RowOb}(h:vw.sw id=ZA r):vw.rw id=ZA r/\r.kd=.sl:=by
 unfold Vw.sw at h;split at h
 .rename_i q hq;split at h
  .rename_i hk;cases h;refine⟨hq,?_⟩;cases hd:r.kd with
   |sl=>rfl
   |_=>rw[hd]at hk;cases hk
  .exact Xo
 .exact Xo
def Vw.tw(vw:Vw)(id:Nat):Option RowOb:=match vw.rw id with
 |some r=>if r.kd.fits r.ks then ZA r else ZE
 |none=>ZE
def Vw.tw_some{vw:Vw}{id:Nat}{r:RowOb}(h:vw.tw id=ZA r):vw.rw id=ZA r/\r.kd=CR r.ks:=by
 unfold Vw.tw at h;split at h
 .rename_i q hq;split at h
  next hk=>cases h;exact⟨hq,RK.fits_eq hk⟩
  .exact Xo
 .exact Xo
structure Eff where
 val:V
 al:Option (List C×Nat):=ZE
 rd:List (Nat×Nat):=[]
 wr:List (Nat×Nat×C):=[]
 rr:List Nat:=[]
 re:RE:=.none
 deriving Repr,Inhabited
def rJ:Value->Option C
 |.int k z=>ZA (.int k (.p z))
 |.bool b=>ZA (.bool (.tt b))
 |.pointer ZE=>ZA .np
 |.func (.func f) ⟨[]⟩ ⟨[]⟩=>ZA (.fn f)
 |.slice ZE 0 0=>ZA .nsl
 |.nilFunc=>ZA .nf
 |.map ZE=>ZA .nmp
 |.string ⟨⟨[]⟩⟩=>ZA (.str .ln)
 |_=>ZE
def nF:List Value->Option (List C)
 |[]=>ZA []
 |v::vs=>match rJ v,nF vs with
   |some c,ZA cs=>ZA (c::cs)
   |_,_=>ZE
def ofValue:Value->Option V
 |.agg ⟨vs⟩=>(nF vs).map .agg
 |v=>(rJ v).map .one
def wH{v:Value}{c:C}(h:rJ v=ZA c)(U:Env)(j:J):c.den U j=ZA v:=by unfold rJ at h;split at h<;>cases h<;>rfl
def rI(U:Env)(j:J):∀{vs:List Value} {cs:List C},nF vs=ZA cs->Af U j cs=ZA vs
 |[],cs,h=>by cases h;rfl
 |v::vs,cs,h=>by
   simp only[nF]at h;cases hc:rJ v with
   |none=>rw[hc]at h;cases h
   |some c=>
     cases hl:nF vs with
     |none=>rw[hc,hl]at h;cases h
     |some l=>rw[hc,hl]at h;cases h;simp only[Af,wH hc,rI U j hl]
def acY{v:Value}{x:V}(h:ofValue v=ZA x)(U:Env)(j:J):x.den U j=ZA v:=by
 unfold ofValue at h;split at h
 .rename_i vs;cases hc:nF vs with
  |none=>rw[hc]at h;cases h
  |some cs=>rw[hc]at h;cases h;simp[V.den,rI U j hc]
 .cases hc:rJ v with
  |none=>rw[hc]at h;cases h
  |some c=>rw[hc]at h;cases h;exact wH hc U j
def V.cells:V->List C
 |.one c=>[c]
 |.agg cs=>cs
 |.tup _=>[]
 |.top=>[]
def V.flat:V->Bool
 |.tup _=>ZC
 |.top=>ZC
 |_=>ZB
def zo{U:Env}{j:J}{c:C}{v:Value}(h:c.den U j=ZA v):v.cells = #[v]:=by
 cases c<;>simp only[C.den,Ay]at h
 case ptr b o=>obtain⟨k,_,rfl⟩:=h;rfl
 case fp b o=>obtain⟨k,_,rfl⟩:=h;rfl
 case sl id=>obtain⟨k,_,rfl⟩:=h;rfl
 case ep id BC e off=>simp only[cY,SV.elem,Ay]at h;obtain⟨k,_,a,_,rfl⟩:=h;rfl
 case clo=>obtain⟨x,y,_,_,rfl⟩:=gu h;rfl
 case mp id=>obtain⟨k,_,rfl⟩:=h;rfl
 case yld id=>obtain⟨k,_,rfl⟩:=h;rfl
 case wn id sz lo hi mx=>obtain⟨k,_,rfl⟩:=h;rfl
 case aw b o n sz lo hi mx=>obtain⟨k,_,rfl⟩:=h;rfl
 case pe b o n sz e off=>obtain⟨k,_,rfl⟩:=h;rfl
 case itp id mid=>obtain⟨_,_,_,_,_,rfl⟩:=amT (U:=U) h;rfl
 all_goals cases h;rfl
def V.cells_ok{U:Env}{j:J}{x:V}{v:Value}(h:x.den U j=ZA v)(hf:x.flat=ZB):Af U j x.cells=ZA v.cells.toList:=by
 cases x with
 |one c=>have h':c.den U j=ZA v:=h;simp[V.cells,Af,h',zo h']
 |agg cs=>simp only[V.den,Ay]at h;obtain⟨vs,EN,rfl⟩:=h;simpa[V.cells,Value.cells]using EN
 |tup _=>cases hf
 |top=>cases hf
def C.solid:C->Bool
 |.undef=>ZC
 |_=>ZB
def C.solid_ok{U:Env}{j:J}{c:C}{v:Value}(h:c.den U j=ZA v)(hs:c.solid=ZB):v.oneCell'=ZB:=by
 cases c<;>simp only[C.den,Ay]at h
 case ptr b o=>obtain⟨k,_,rfl⟩:=h;rfl
 case fp b o=>obtain⟨k,_,rfl⟩:=h;rfl
 case sl id=>obtain⟨k,_,rfl⟩:=h;rfl
 case ep id BC e off=>simp only[cY,SV.elem,Ay]at h;obtain⟨k,_,a,_,rfl⟩:=h;rfl
 case undef=>cases hs
 case clo=>obtain⟨x,y,_,_,rfl⟩:=gu h;rfl
 case mp id=>obtain⟨k,_,rfl⟩:=h;rfl
 case yld id=>obtain⟨k,_,rfl⟩:=h;rfl
 case wn id sz lo hi mx=>obtain⟨k,_,rfl⟩:=h;rfl
 case aw b o n sz lo hi mx=>obtain⟨k,_,rfl⟩:=h;rfl
 case pe b o n sz e off=>obtain⟨k,_,rfl⟩:=h;rfl
 case itp id mid=>obtain⟨_,_,_,_,_,rfl⟩:=amT (U:=U) h;rfl
 all_goals cases h;rfl
def dW(b:Nat):Nat->Nat->List (Nat×Nat)
 |_,0=>[]
 |o,n+1=>(b,o)::dW b (o+1) n
def eG(b:Nat):Nat->List C->List (Nat×Nat×C)
 |_,[]=>[]
 |o,c::cs=>(b,o,c)::eG b (o+1) cs
def eQ:List C->List C->Option E
 |[],[]=>ZA (.tt ZB)
 |.int k a::l,.int k' b::r=>if bE k k' then(eQ l r).map (ib (Gi a b))else ZE
 |.bool a::l,.bool b::r=>(eQ l r).map (ib (Sn a b))
 |_,_=>ZE
def aoo(n:Nat)(cs:List C)(e:E):E:=match e with
 |.tt b=>.tt b
 |e=>if Nat.blt n cs.length then .beq e (.tt ZB)else e
def aon(U:Env)(n:Nat)(cs:List C)(e:E):(aoo n cs e).B U=e.B U:=by
 unfold aoo;split
 .rfl
 .split
  .simp[E.B]
  .rfl
def gV:List C->E
 |.int _ e::l=>.cons e (gV l)
 |.bool e::l=>.j e (gV l)
 |_=>.nil
def aom(n:Nat)(cs ds:List C)(e:E):E:=match e with
 |.tt b=>.tt b
 |e=>if Nat.blt 20 cs.length then .leq (.lq .ln (gV cs)) (.lq .ln (gV ds))else aoo n cs e
def ara(a b:Bool):(AE a==AE b)=(a==b):=by cases a<;>cases b<;>rfl
def lM{U:Env}:∀{cs ds:List C} {e:E},eQ cs ds=ZA e->((gV cs).L U==(gV ds).L U)=e.B U
 |[],[],e,h=>by cases h;rfl
 |.int k a::l,.int k' b::r,e,h=>by
   simp only[eQ]at h;split at h
   .rw[Ay]at h;obtain⟨e',he,rfl⟩:=h;have:=lM (U:=U) he;simp only[gV,E.L,dQ,qh,<-this];rfl
   .exact Xo
 |.bool a::l,.bool b::r,e,h=>by simp only[eQ,Ay]at h;obtain⟨e',he,rfl⟩:=h;have:=lM (U:=U) he;simp only[gV,E.L,dQ,ue,<-this,<-ara];rfl
def aol(U:Env)(n:Nat){cs ds:List C}{e:E}(h:eQ cs ds=ZA e):(aom n cs ds e).B U=e.B U:=by
 unfold aom;split
 .rfl
 .split
  .have:=lM (U:=U) h;rw[<-this];simp only[E.B,E.R,ZQ];exact Bool.and_true _
  .exact aon U n cs e
def uv(n:Nat)(cs ds:List C):Option E:=(eQ cs ds).map (aom n cs ds)
def T2:List Value->List Value->Prop
 |[],[]=>True
 |.int k _::l,.int k' _::r=>k=k'/\T2 l r
 |.bool _::l,.bool _::r=>T2 l r
 |_,_=>False
def Df:List Value->List Value->Bool
 |.int _ a::l,.int _ b::r=>(a==b)&&Df l r
 |.bool a::l,.bool b::r=>(a==b)&&Df l r
 |_,_=>ZB
def fy:List C->List C->Bool
 |[],[]=>ZB
 |.int k _::l,.int k' _::r=>bE k k'&&fy l r
 |.bool _::l,.bool _::r=>fy l r
 |_,_=>ZC
def aH:List Value->List C->Prop
 |[],[]=>True
 |.int k x::l,.int k' _::r=>k=k'/\Ae k x=ZB/\aH l r
 |.bool _::l,.bool _::r=>aH l r
 |_,_=>False
def C.rng(vk:List VK):C->Bool
 |.int k e=>e.rng vk k
 |_=>ZB
def R7(vk:List VK):List C->Rm->Bool
 |[],_=>ZB
 |.int k e::cs,m=>match e.rngW vk k m with
   |some m'=>R7 vk cs m'
   |none=>ZC
 |_::cs,m=>R7 vk cs m
def Ft(vk:List VK)(cs:List C)(_:List VK)(_:Nat):Bool:=R7 vk cs (Rm.ini vk)
def akq{vk:List VK}:∀(cs:List C) (m:Rm),m.ok vk->R7 vk cs m=ZB->cs.all (C.rng vk)=ZB:=by
 intro cs
 induction cs with
 |nil=>intros;rfl
 |cons c cs ih=>
   intro m hm h;rw[ZY,ne];cases c with
   |int k e=>
     simp only[R7]at h;split at h
     next m' hw=>obtain⟨h1,h2⟩:=yF hm hw;exact⟨h1,ih m' h2 h⟩
     .exact Xo
   |_=>exact⟨rfl,ih m hm h⟩
def rngs_ok{vk:List VK}(cs:List C)(q:List VK)(n:Nat)(_:q=vk.drop n)(h:Ft vk cs q n=ZB):cs.all (C.rng vk)=ZB:=akq cs _ (Rm.ini_ok vk) h
def mF{U:Env}{j:J}{vk:List VK}(hv:Vk U vk):∀{cs zs:List C} {vs:List Value},fy cs zs=ZB->cs.all (C.rng vk)=ZB->Af U j cs=ZA vs->aH vs zs
 |[],[],vs,_,_,h=>by cases h;trivial
 |.int k a::l,.int k' b::r,vs,hk,hr,h=>by
   simp only[fy,ne]at hk;simp only[ZY,ne]at hr;simp only[Af,C.den]at h;cases hl:Af U j l with
   |none=>rw[hl]at h;cases h
   |some us=>rw[hl]at h;cases h;exact⟨ar hk.1,E.rng_ok hv a hr.1,mF hv hk.2 hr.2 hl⟩
 |.bool a::l,.bool b::r,vs,hk,hr,h=>by
   simp only[fy]at hk;simp only[ZY,ne]at hr;simp only[Af,C.den]at h;cases hl:Af U j l with
   |none=>rw[hl]at h;cases h
   |some us=>rw[hl]at h;cases h;exact mF (cs:=l) (zs:=r) hv hk hr.2 hl
def ae{e:E}{r:List C}(h:aH vs (.int k e::r)):∃x l,vs=.int k x::l/\Ae k x=ZB/\aH l r:=by
 match vs,h with
 |.int k' x::l,h=>exact⟨x,l,by rw[h.1],by rw[<-h.1];exact h.2.1,h.2.2⟩
def dR{e:E}{r:List C}(h:aH vs (.bool e::r)):∃x l,vs=.bool x::l/\aH l r:=by
 match vs,h with
 |.bool x::l,h=>exact⟨x,l,rfl,h⟩
def bM(h:aH vs []):vs=[]:=by
 cases vs with
 |nil=>rfl
 |cons v l=>cases v<;>exact h.elim
def lH{U:Env}{j:J}:∀{cs ds:List C} {e:E},eQ cs ds=ZA e->∃vs us,Af U j cs=ZA vs/\Af U j ds=ZA us/\T2 vs us/\Df vs us=e.B U
 |[],[],e,h=>by cases h;exact⟨[],[],rfl,rfl,trivial,rfl⟩
 |.int k a::l,.int k' b::r,e,h=>by
   simp only[eQ]at h;split at h
   next hk=>rw[Ay]at h;obtain⟨e',he,rfl⟩:=h;obtain⟨vs,us,h1,h2,h3,h4⟩:=lH (U:=U) (j:=j) he;refine⟨.int k (a.I U)::vs,.int k' (b.I U)::us,by simp[Af,C.den,h1],by simp[Af,C.den,h2],⟨ar hk,h3⟩,?_⟩;simp[Df,h4,dQ,qh]
   .exact Xo
 |.bool a::l,.bool b::r,e,h=>by simp only[eQ,Ay]at h;obtain⟨e',he,rfl⟩:=h;obtain⟨vs,us,h1,h2,h3,h4⟩:=lH (U:=U) (j:=j) he;refine⟨.bool (a.B U)::vs,.bool (b.B U)::us,by simp[Af,C.den,h1],by simp[Af,C.den,h2],h3,?_⟩;simp[Df,h4,dQ,ue]
def adb{U:Env}{j:J}{n:Nat}{cs ds:List C}{e:E}(h:uv n cs ds=ZA e):∃vs us,Af U j cs=ZA vs/\Af U j ds=ZA us/\T2 vs us/\Df vs us=e.B U:=by unfold uv at h;rw[Ay]at h;obtain⟨e',he,rfl⟩:=h;obtain⟨vs,us,h1,h2,h3,h4⟩:=lH (U:=U) (j:=j) he;exact⟨vs,us,h1,h2,h3,by rw[aol U n he];exact h4⟩
def kY:E->Nat->Option E
 |.lq a r,i=>match dG a with
   |.p z=>if fC z i then ZA r else kY a i
   |_=>kY a i
 |.lcat a b,i=>match dG a with
   |.p z=>if decide (z<=(i:Int))then kY b (i-z.toNat)else kY a i
   |_=>kY a i
 |_,_=>ZE
def ij:E->Nat->Option E
 |.cons a _,0=>ZA a
 |.cons _ t,c+1=>ij t c
 |.j _ t,c+1=>ij t c
 |_,_=>ZE
def lm:E->Nat->Option E
 |.j b _,0=>ZA b
 |.cons _ t,c+1=>lm t c
 |.j _ t,c+1=>lm t c
 |_,_=>ZE
def mC(l e:E):Option E:=match e with
 |.p (.ofNat i)=>kY l i
 |_=>ZE
def qV(l e:E)(c:Nat):E:=match(mC l e).bind (ij · c)with
 |some x=>x
 |none=>.get l e c
def qg(l e:E)(c:Nat):E:=match(mC l e).bind (lm · c)with
 |some x=>x
 |none=>.getb l e c
def wq(U:Env):∀(l:E) (i:Nat) (r:E),kY l i=ZA r->(l.R U)[i]? =ZA (r.L U):=by
 intro l
 induction l<;>intro i r h<;>simp only[kY]at h<;>first|cases h|skip
 case lq a r0 ih _=>
  have left:kY a i=ZA r->((E.lq a r0).R U)[i]? =ZA (r.L U):=fun h=>by have h1:=ih i r h;have As:=(cZ.1 h1).1;simp only[E.R];rw[A9 As];exact h1
  split at h
  .rename_i z hz;split at h
   next IM=>cases h;have h1:=dP U a;rw[hz,cR IM]at h1;simp only[E.I]at h1;have h2:(a.R U).length=i:=Fn;simp only[E.R];rw[Bl Fn,h2];simp
   .exact left h
  .exact left h
 case lcat a b iha ihb=>
  have left:kY a i=ZA r->((E.lcat a b).R U)[i]? =ZA (r.L U):=fun h=>by have h1:=iha i r h;have As:=(cZ.1 h1).1;simp only[E.R];rw[A9 As];exact h1
  split at h
  .rename_i z hz;split at h
   next IM=>have IM:=Ah IM;have h1:=dP U a;rw[hz]at h1;simp only[E.I]at h1;have h2:=ihb _ r h;simp only[E.R];rw[Bl Fn,show i-(a.R U).length=i-z.toNat by omega];exact h2
   .exact left h
  .exact left h
def adx(U:Env):∀(r:E) (c:Nat) (x:E),ij r c=ZA x->(r.L U).getD c 0=x.I U:=by
 intro r
 induction r<;>intro c x h<;>cases c<;>simp only[ij]at h<;>first|cases h|skip
 .rfl
 .exact XX
 .exact XX
def aiG(U:Env):∀(r:E) (c:Nat) (x:E),lm r c=ZA x->(r.L U).getD c 0=AE (x.B U):=by
 intro r
 induction r<;>intro c x h<;>cases c<;>simp only[lm]at h<;>first|cases h|skip
 .exact XX
 .rfl
 .exact XX
def wO{U:Env}{l e r:E}(h:mC l e=ZA r)(c:Nat):gt (l.R U) (e.I U) c=(r.L U).getD c 0:=by
 unfold mC at h;split at h
 next i=>have h1:=wq U l i r h;show((l.R U).getD i []).getD c 0=_;rw[show(l.R U).getD i []=r.L U by rw[bV,h1];rfl]
 .exact Xo
def yN(U:Env)(l e:E)(c:Nat):(qV l e c).I U=gt (l.R U) (e.I U) c:=by
 unfold qV;split
 next x hx=>rw[cY]at hx;obtain⟨r,h1,h2⟩:=hx;rw[wO h1,adx U r c x h2]
 .rfl
def ub(U:Env)(l e:E)(c:Nat):(qg l e c).B U=(gt (l.R U) (e.I U) c==1):=by
 unfold qg;split
 next x hx=>rw[cY]at hx;obtain⟨r,h1,h2⟩:=hx;rw[wO h1,aiG U r c x h2];cases x.B U<;>rfl
 .rfl
def H7(l e:E)(c:Nat):CE->C
 |some k=>.int k (qV l e c)
 |none=>.bool (qg l e c)
def kU(l e:E):Nat->List CE->List C
 |_,[]=>[]
 |c,k::ks=>H7 l e c k::kU l e (c+1) ks
def PX:Nat->E->Option E
 |0,t=>ZA t
 |c+1,.cons _ t=>PX c t
 |c+1,.j _ t=>PX c t
 |_,_=>ZE
def su:List CE->E->Option (List C)
 |[],_=>ZA []
 |some k::ks,.cons a t=>(su ks t).map (.int k a::·)
 |none::ks,.j a t=>(su ks t).map (.bool a::·)
 |_,_=>ZE
def VC(l e:E)(c:Nat)(ks:List CE):List C:=match((mC l e).bind (PX c)).bind (su ks)with
 |some cs=>cs
 |none=>kU l e c ks
def lI:∀{c:Nat} {row t:E},PX c row=ZA t->(∀m,ij row (c+m)=ij t m)/\∀m,lm row (c+m)=lm t m
 |0,row,t,h=>by cases h;exact⟨fun m=>by rw[bJ],fun m=>by rw[bJ]⟩
 |c+1,.cons _ u,t,h=>by obtain⟨h1,h2⟩:=lI (c:=c) (row:=u) h;exact⟨fun m=>by rw[show c+1+m=(c+m)+1 by omega];exact h1 m,fun m=>by rw[show c+1+m=(c+m)+1 by omega];exact h2 m⟩
 |c+1,.j _ u,t,h=>by obtain⟨h1,h2⟩:=lI (c:=c) (row:=u) h;exact⟨fun m=>by rw[show c+1+m=(c+m)+1 by omega];exact h1 m,fun m=>by rw[show c+1+m=(c+m)+1 by omega];exact h2 m⟩
def qE{l e row:E}(hl:mC l e=ZA row):∀(ks:List CE) (c:Nat) (t:E) (cs:List C),(∀m,ij row (c+m)=ij t m)->(∀m,lm row (c+m)=lm t m)->su ks t=ZA cs->cs=kU l e c ks
 |[],c,t,cs,_,_,h=>by cases h;rfl
 |some k::ks,c,t,cs,h1,h2,h=>by
   cases t<;>simp only[su]at h<;>first|cases h|skip
   rename_i a t;rw[Ay]at h;obtain⟨Gu,h3,rfl⟩:=h;have:=qE hl ks (c+1) t Gu (fun m=>by rw[show c+1+m=c+(m+1) by omega,h1];rfl) (fun m=>by rw[show c+1+m=c+(m+1) by omega,h2];rfl) h3;have h0:ij row c=ZA a:=h1 0;simp only[kU,H7,qV,hl,Option.bind_some,h0,this]
 |none::ks,c,t,cs,h1,h2,h=>by
   cases t<;>simp only[su]at h<;>first|cases h|skip
   rename_i a t;rw[Ay]at h;obtain⟨Gu,h3,rfl⟩:=h;have:=qE hl ks (c+1) t Gu (fun m=>by rw[show c+1+m=c+(m+1) by omega,h1];rfl) (fun m=>by rw[show c+1+m=c+(m+1) by omega,h2];rfl) h3;have h0:lm row c=ZA a:=h2 0;simp only[kU,H7,qg,hl,Option.bind_some,h0,this]
def agz(l e:E)(c:Nat)(ks:List CE):VC l e c ks=kU l e c ks:=by
 unfold VC;split
 next cs h=>simp only[cY]at h;obtain⟨t,⟨row,h1,h2⟩,h3⟩:=h;obtain⟨h4,h5⟩:=lI h2;exact qE h1 ks c t cs h4 h5 h3
 .rfl
def fX(vk:List VK)(l e:E):Nat->List CE->List C->Option E
 |_,_,[]=>ZA l
 |c,ZA k::ks,.int k' x::cs=>if bE k' k&&x.rng vk k then fX vk (.lset l e c x) e (c+1) ks cs else ZE
 |c,ZE::ks,.bool x::cs=>fX vk (.lsetb l e c x) e (c+1) ks cs
 |_,_,_=>ZE
def PM:List CE->List C->Option E
 |[],[]=>ZA .nil
 |some k::ks,.int k' x::cs=>if bE k' k then(PM ks cs).map (.cons x)else ZE
 |none::ks,.bool x::cs=>(PM ks cs).map (.j x)
 |_,_=>ZE
def Gc(vk:List VK)(ks:List CE)(cs:List C):Option E:=bif Ft vk cs vk 0 then PM ks cs else ZE
def UP(r l:E):E:=match l with
 |.ln=>.lq .ln r
 |l=>.lcat (.lq .ln r) l
def aiz(U:Env)(r l:E):(UP r l).R U=r.L U::l.R U:=by unfold UP;split<;>simp[E.R]
def PQ(vk:List VK)(ks:List CE):Nat->List C->Option E
 |0,[]=>ZA .ln
 |n+1,cs=>match Gc vk ks (cs.take ks.length),PQ vk ks n (cs.drop ks.length)with
   |some r,ZA l=>ZA (UP r l)
   |_,_=>ZE
 |0,_::_=>ZE
def JJ:List C->Option (List CE)
 |[]=>ZA []
 |.int k _::cs=>(JJ cs).map (ZA k::·)
 |.bool _::cs=>(JJ cs).map (ZE::·)
 |_=>ZE
def ko:CE->Int->Value
 |some k,x=>.int k x
 |none,x=>.bool (x==1)
def Bi:List CE->List Int->List Value
 |k::ks,x::xs=>ko k x::Bi ks xs
 |_,_=>[]
def flat(ks:List CE)(L:LL):List Value:=L.flatMap (Bi ks)
def RdRow(w:World)(BC:Nat)(s:SV)(xs:List Value):Prop:=xs.length=s.n*BC/\s.n<=s.c/\s.c<=maxLen/\(s.a=ZE->s.n=0/\s.c=0)/\∀a,s.a=ZA a->∀i u,xs[i]? =ZA u->w.cell? (a.add i)=ZA u
def SV.blk(s:SV)(o:Bool):Option Nat:=if(o ||!ZJ s.c 0)=ZB then s.v.ownBlock else ZE
def aA{s:SV}{k:Nat}(h:s.blk o=ZA k):s.v.ownBlock=ZA k:=by
 unfold SV.blk at h;split at h
 .exact h
 .exact Xo
def mQ{s:SV}{k:Nat}(ho:o=ZB)(h:s.v.ownBlock=ZA k):s.blk o=ZA k:=by rw[ho];exact h
def bO{s:SV}{k:Nat}(h:s.blk ZC=ZA k):s.blk o=ZA k:=by
 cases o with
 |false=>exact h
 |true=>exact aA h
def qG{s:SV}{k:Nat}(hc:s.c≠0)(h:s.v.ownBlock=ZA k):s.blk ZC=ZA k:=by
 unfold SV.blk;have:ZJ s.c 0=ZC:=by cases hb:ZJ s.c 0 with
  |false=>rfl
  |true=>exact absurd (Ak hb) hc
 simpa[this]using h
def jo(vk:List VK)(rw:Nat->Option RowOb)(ks:List CE)(ty:Nat):C->Option E
 |.sl id=>match rw id with
   |some r=>if dc r.ks ks&&(ZJ r.ty ty&&r.l.lok vk ks)then ZA r.l else ZE
   |none=>ZE
 |.nsl=>ZA .ln
 |_=>ZE
def yG:List CE->List Int->E
 |some _::ks,x::xs=>.cons (.p x) (yG ks xs)
 |none::ks,x::xs=>.j (.tt (fC x 1)) (yG ks xs)
 |_,_=>.nil
def M9(ks:List CE):E->LL->E
 |e,[]=>e
 |e,r::l=>M9 ks (.lq e (yG ks r)) l
def Ri(ks:List CE):LL->E
 |[]=>.ln
 |r::l=>UP (yG ks r) (Ri ks l)
def IF(ks:List CE)(L:LL):Bool:=L.all (av ks)&&(decide (L.length<=maxLen)&&(decide (0<ks.length) &&!dc ks Do))
def Up{U:Env}:∀{ks:List CE} {xs:List Int},av ks xs=ZB->(yG ks xs).L U=xs
 |[],[],_=>rfl
 |some k::ks,x::xs,h=>by simp only[av,ne]at h;simp only[yG,E.L,E.I,Up h.2]
 |none::ks,x::xs,h=>by simp only[av,ne,Dn,fk,cL]at h;simp only[yG,E.L,E.B,Up h.2];rcases h.1 with rfl|rfl<;>rfl
def ar1{U:Env}{ks:List CE}:∀{L:LL} {e:E},L.all (av ks)=ZB->(M9 ks e L).R U=e.R U++L
 |[],e,_=>by simp[M9]
 |r::l,e,h=>by simp only[ZY,ne]at h;rw[M9,ar1 h.2];simp only[E.R,Up h.1,List.append_assoc,List.singleton_append]
def ar4{U:Env}{ks:List CE}:∀{L:LL},L.all (av ks)=ZB->(Ri ks L).R U=L
 |[],_=>rfl
 |r::l,h=>by simp only[ZY,ne]at h;rw[Ri,aiz,ar4 h.2,Up h.1]
def yH{U:Env}{ks:List CE}{L:LL}(h:IF ks L=ZB):(M9 ks .ln L).R U=L/\RowsIn ks L/\0<ks.length/\CR ks=.sl:=by
 simp only[IF,ne,aB,Bool.not_eq_true']at h;refine⟨by rw[ar1 h.1];rfl,⟨fun r hr=>Ct.1 h.1 r hr,h.2.1⟩,h.2.2.1,?_⟩;rcases cC ks with⟨h1,_⟩|⟨_,h1⟩
 .rw[h1]at h;exact absurd h.2.2.2 ST
 .exact h1
def HJ(vk:List VK)(rw:Nat->Option RowOb):CK->C->E->Option E
 |.int k,.int k' e,t=>if bE k k'&&e.rng vk k then ZA (.cons e t)else ZE
 |.bool,.bool e,t=>ZA (.j e t)
 |.fn g,.fn g',t=>if ZJ g g' then ZA t else ZE
 |.p k z,.int k' (.p z'),t=>if bE k k'&&fC z z' then ZA t else ZE
 |.sl ks ty,c,t=>(jo vk rw ks ty c).map fun l=>.N l t
 |.nf,.nf,t=>ZA t
 |.any,_,t=>ZA t
 |.rl ks ty L,.sl id,t=>match rw id with
   |some r=>if(dc r.ks ks&&ZJ r.ty ty)&&((r.l.same (M9 ks .ln L)||r.l.same (Ri ks L))&&IF ks L)then ZA t else ZE
   |none=>ZE
 |_,_,_=>ZE
def xo(vk:List VK)(rw:Nat->Option RowOb):List CK->List C->E->Option E
 |[],[],t=>ZA t
 |k::ks,c::cs,t=>(xo vk rw ks cs t).bind (HJ vk rw k c)
 |_,_,_=>ZE
def W6(vk:List VK)(rw:Nat->Option RowOb):CK->C->E->Option E
 |.int k,.int k' e,t=>if bE k k' then ZA (.cons e t)else ZE
 |.bool,.bool e,t=>ZA (.j e t)
 |.fn g,.fn g',t=>if ZJ g g' then ZA t else ZE
 |.p k z,.int k' (.p z'),t=>if bE k k'&&fC z z' then ZA t else ZE
 |.sl ks ty,c,t=>(jo vk rw ks ty c).map fun l=>.N l t
 |.nf,.nf,t=>ZA t
 |.any,_,t=>ZA t
 |.rl ks ty L,.sl id,t=>match rw id with
   |some r=>if(dc r.ks ks&&ZJ r.ty ty)&&((r.l.same (M9 ks .ln L)||r.l.same (Ri ks L))&&IF ks L)then ZA t else ZE
   |none=>ZE
 |_,_,_=>ZE
def alw{vk:List VK}{rw:Nat->Option RowOb}{k:CK}{c:C}{t e:E}(hc:c.rng vk=ZB)(h:W6 vk rw k c t=ZA e):HJ vk rw k c t=ZA e:=by
 unfold W6 at h;split at h
 .rename_i k1 k2 x;split at h
  next h1=>obtain rfl:=ar h1;have h2:x.rng vk k1=ZB:=hc;simp[HJ,h1,h2];exact ZN h
  .exact Xo
 all_goals first|exact h|cases h
def Va(vk:List VK)(rw:Nat->Option RowOb):List CK->List C->E->Option E
 |[],[],t=>ZA t
 |k::ks,c::cs,t=>(Va vk rw ks cs t).bind (W6 vk rw k c)
 |_,_,_=>ZE
def ab6{vk:List VK}{rw:Nat->Option RowOb}:∀{ks:List CK} {cs:List C} {t e:E},cs.all (C.rng vk)=ZB->Va vk rw ks cs t=ZA e->xo vk rw ks cs t=ZA e
 |[],[],_,_,_,h=>h
 |k::ks,c::cs,t,e,hr,h=>by simp only[ZY,ne]at hr;simp only[Va,cY]at h;obtain⟨e1,h1,h2⟩:=h;simp only[xo,cY];exact⟨e1,ab6 hr.2 h1,alw hr.1 h2⟩
def Io(vk:List VK)(rw:Nat->Option RowOb)(ks:List CK)(cs:List C)(t:E):Option E:=bif Ft vk cs vk 0 then Va vk rw ks cs t else ZE
def xm{vk:List VK}{rw:Nat->Option RowOb}{ks:List CK}{cs:List C}{t e:E}(h:Io vk rw ks cs t=ZA e):xo vk rw ks cs t=ZA e:=by
 unfold Io at h;cases hr:Ft vk cs vk 0 with
 |false=>rw[hr]at h;cases h
 |true=>rw[hr]at h;exact ab6 (rngs_ok cs vk 0 rfl hr) h
def SN(vk:List VK)(vw:Vw)(ks:List CE)(id z:Nat)(e t:E):Option E:=match vw.sw id with
 |some r=>if dc r.ks ks&&ZJ z ks.length then(Gc vk ks (kU r.l e 0 ks)).map fun x=>.N (.lq .ln x) t else ZE
 |none=>ZE
def NU(vk:List VK)(vw:Vw):Sh->V->E->Option E
 |.agg ks,.agg cs,t=>Io vk vw.tw ks cs t
 |.one (.el ks _),.one (.ep id z e 0),t=>SN vk vw ks id z e t
 |.one k,.one c,t=>HJ vk vw.tw k c t
 |.ptr ks,.one (.ptr b 0),t=>if 0<ks.length then(vw.row b 0 ks.length).bind fun cs=>Io vk vw.tw ks cs t else ZE
 |.ptr ks,.one (.fp b 0),t=>(vw.fb b).bind fun cs=>if cs.all C.solid then Io vk vw.tw ks cs t else ZE
 |_,_,_=>ZE
def I8(vk:List VK)(vw:Vw):List Sh->List V->Option E
 |[],[]=>ZA .nil
 |s::ss,v::vs=>(I8 vk vw ss vs).bind (NU vk vw s v)
 |_,_=>ZE
def fU:List C->List Nat
 |[]=>[]
 |.sl id::cs=>id::fU cs
 |.ep id _ _ _::cs=>id::fU cs
 |_::cs=>fU cs
def iD(vw:Vw):List Sh->List V->List Nat
 |.ptr ks::ss,.one (.ptr b 0)::vs=>(match vw.row b 0 ks.length with|some cs=>fU cs|none=>[])++iD vw ss vs
 |.ptr _::ss,.one (.fp b 0)::vs=>(match vw.fb b with|some cs=>fU cs|none=>[])++iD vw ss vs
 |_::ss,v::vs=>fU v.cells++iD vw ss vs
 |_,_=>[]
def uF:List Sh->List V->List (Nat×Nat)
 |.ptr ks::ss,.one (.ptr b 0)::vs=>dW b 0 ks.length++uF ss vs
 |_::ss,_::vs=>uF ss vs
 |_,_=>[]
def ain(row:List Int):List Value:=((row.drop 3).take (row.getD 2 0).toNat).map fun x=>.int .u64 x
def aim(row:List Int)(x:SV):List Value:=[.int .i64 (row.getD 0 0),x.v,.int .u64 (row.getD 1 0)]
def gT:LL->List SV->List Value
 |r::L,x::xs=>aim r x++gT L xs
 |_,_=>[]
def Cg:Obj->Bool
 |.cells _ _ _=>ZB
 |_=>ZC
structure EvIn(w:World)(row:List Int)(x:SV):Prop where
 n:(x.n:Int)=row.getD 2 0
 most:x.n<=5
 rest:(row.drop 3).drop x.n=ZM (5-x.n) 0
 rd:RdRow w 1 x (ain row)
 blk:∀k,x.blk ZC=ZA k->∃o,w.heap[k]? =ZA o/\Cg o=ZB
def TRow(w:World)(ks:List CE)(s:SV)(L:LL):Prop:=
 match CR ks with
 |.ev=>∃ins:List SV,ins.length=L.length/\RdRow w 3 s (gT L ins)/\∀(i:Nat) row x,L[i]? =ZA row->ins[i]? =ZA x->EvIn w row x
 |_=>RdRow w ks.length s (flat ks L)
def xv(w:World)(k:CK)(xs:List Dt)(v:Value)(r:List Dt):Prop:=
 match k with
 |.int k=>∃x,xs=.z x::r/\v=.int k x/\Ae k x=ZB
 |.bool=>∃b,xs=.z (AE b)::r/\v=.bool b
 |.fn g=>xs=r/\v=.func (.func g) #[] #[]
 |.p k z=>xs=r/\v=.int k z
 |.sl ks _=>∃L s,xs=.l L::r/\v=s.v/\s.n=L.length/\TRow w ks s L/\RowsIn ks L/\∀k,s.blk ZC=ZA k->k<w.heap.size
 |.nf=>xs=r/\v=.nilFunc
 |.any=>xs=r
 |.el ks _=>∃row p,xs=.l [row]::r/\v=.pointer (ZA p)/\av ks row=ZB/\p.block<w.heap.size/\∀(c:Nat) u,(flat ks [row])[c]? =ZA u->w.cell? (p.add c)=ZA u
 |.rl ks _ L=>xs=r/\IF ks L=ZB/\∃s,v=s.v/\s.n=L.length/\TRow w ks s L/\∀k,s.blk ZC=ZA k->k<w.heap.size
def lk(w:World):List CK->List Dt->List Value->List Dt->Prop
 |[],xs,vs,r=>xs=r/\vs=[]
 |k::ks,xs,vs,r=>∃v us r',vs=v::us/\xv w k xs v r'/\lk w ks r' us r
def nq(w:World):List Sh->List Dt->List Value->Prop
 |[],xs,vals=>xs=[]/\vals=[]
 |.one c::ss,xs,vals=>∃v vs r,vals=v::vs/\xv w c xs v r/\nq w ss r vs
 |.agg cs::ss,xs,vals=>∃us vs r,vals=.agg us.toArray::vs/\lk w cs xs us r/\nq w ss r vs
 |.ptr cs::ss,xs,vals=>∃kk us vs r,vals=.pointer (ZA ⟨kk,0,ZE⟩)::vs/\lk w cs xs us r/\kk<w.heap.size/\(∀o u,us[o]? =ZA u->w.cell? ⟨kk,o,ZE⟩=ZA u)/\nq w ss r vs
def L5:CK->List Dt->List Dt->Prop
 |.int k,xs,r=>∃x,xs=.z x::r/\Ae k x=ZB
 |.bool,xs,r=>∃b,xs=.z (AE b)::r
 |.sl ks _,xs,r=>∃L,xs=.l L::r/\∀x∈L,av ks x=ZB
 |.rl ks _ L,xs,r=>xs=r/\IF ks L=ZB
 |.el ks _,xs,r=>∃row,xs=.l [row]::r/\av ks row=ZB
 |_,xs,r=>xs=r
def PU:List CK->List Dt->List Dt->Prop
 |[],xs,r=>xs=r
 |k::ks,xs,r=>∃r',L5 k xs r'/\PU ks r' r
def Si:List Sh->List Dt->Prop
 |[],xs=>xs=[]
 |s::ss,xs=>∃r,PU s.cks xs r/\Si ss r
structure OwnRow(w:World)(base:Nat)(ty:Nat)(ks:List CE)(s:SV)(L:LL):Prop where
 n:s.n=L.length
 own:w.ownsRow base ty ks.length s.v s.n (flat ks L)
 rows:RowsIn ks L
 pos:0<ks.length
def aE(v0:Nat):Nat->Nat->List CK->List C
 |_,_,[]=>[]
 |n,id,.int k::ks=>.int k (.w (v0+n))::aE v0 (n+1) id ks
 |n,id,.bool::ks=>.bool (.s (v0+n))::aE v0 (n+1) id ks
 |n,id,.fn g::ks=>.fn g::aE v0 (n+1) id ks
 |n,id,.p _ _::ks=>.undef::aE v0 (n+1) id ks
 |n,id,.sl _ _::ks=>.sl id::aE v0 (n+1) (id+1) ks
 |n,id,.nf::ks=>.nf::aE v0 (n+1) id ks
 |n,id,.any::ks=>.undef::aE v0 (n+1) id ks
 |n,id,.rl _ _ _::ks=>.undef::aE v0 (n+1) id ks
 |n,id,.el _ _::ks=>.undef::aE v0 (n+1) id ks
def CK.isSl:CK->Bool
 |.sl _ _=>ZB
 |_=>ZC
def bH(v0:Nat):Nat->Nat->List Sh->List (Bool×List C)
 |_,_,[]=>[]
 |n,id,.one k::l=>(ZC,aE v0 n id [k])::bH v0 (n+1) (if k.isSl then id+1 else id) l
 |n,id,.agg ks::l=>(ZB,aE v0 n id ks)::bH v0 (n+ks.length) (id+(ks.filter CK.isSl).length) l
 |n,id,.ptr ks::l=>(ZB,[.undef])::bH v0 (n+ks.length) id l
def fY(res:List Sh)(tup:Bool)(v0 nid:Nat):V:=
 if tup then .tup (bH v0 0 nid res)else
 match bH v0 0 nid res with
 |[(ZB,cs)]=>.agg cs
 |[(ZC,[c])]=>.one c
 |_=>.one .undef
def Oy(s:Sm)(v0 nid:Nat):V:=fY s.res s.tup v0 nid
def bz(v0:Nat):Nat->List CK->List RowOb
 |_,[]=>[]
 |n,.sl ks ty::l=>⟨ks,ty,.g (v0+n),ZB,CR ks⟩::bz v0 (n+1) l
 |n,_::l=>bz v0 (n+1) l
section
variable {U:Env}{j:J}{vk:List VK}
end
def gE:List CK->List Dt->Prop
 |[],_=>True
 |.int k::ks,.z x::ds=>Ae k x=ZB/\gE ks ds
 |.int _::_,_=>False
 |.sl ks0 _::ks,.l L::ds=>RowsIn ks0 L/\gE ks ds
 |.sl _ _::_,_=>False
 |_::ks,_::ds=>gE ks ds
 |_::_,[]=>False
structure TIok(P:Program)(t:Nat)(i:TI):Prop where
 agg:∀w,(isAgg t).run P w=.ok i.agg w
 size:∀w,(sizeOf t).run P w=.ok i.size w
 zero:∃z,(∀w,(zeroValue t).run P w=.ok z w)/\∀(U:Env) j,Af U j i.zero=ZA z.cells.toList
 fieldAt:∀f off ft,i.fields[f]? =ZA (off,ft)->∀w (a:Addr),(Instr.fieldAt t (.pointer (ZA a)) f).run P w=.ok (.pointer (ZA (a.add off))) w
 field:∀f off ft,i.fields[f]? =ZA (off,ft)->∀w cs,(Instr.field t (.agg cs) f).run P w=(part ft cs off).run P w
 arr:∀n e,i.arr=ZA (n,e)->P.underlying t=ZA (.array n e)
 str:i.agg=ZB->i.arr=ZE->∃fs,P.underlying t=ZA (.struct fs)/\fs.toList.map (fun f=>(f.offset,f.type))=i.fields
 ik:∀k,i.ik=ZA k->P.underlying t=ZA (.int k)
 und:∃d,P.underlying t=ZA d
 eq:i.eqok=ZB->∀vs us,aH vs i.zero->aH us i.zero->∀w,(Op.equal t (.agg vs.toArray) (.agg us.toArray)).run P w=.ok (Df vs us) w
 grd:i.eqok=ZB->P.eqGuardType P.depth t=ZC
 isb:i.isb=ZB->P.underlying t=ZA .bool
 sle:∀e,i.sle=ZA e->P.underlying t=ZA (.slice e)
 fnt:i.fnt=ZB->∀f a b w,(Op.equal t (.func (.func f) a b) .nilFunc).run P w=.ok ZC w/\(Op.equal t .nilFunc .nilFunc).run P w=.ok ZB w
 mapt:∀k e,i.mapt=ZA (k,e)->P.underlying t=ZA (.map k e)
 ptr:i.kd=1->∃e,P.underlying t=ZA (.pointer e)
 stg:i.kd=2->P.underlying t=ZA .string
 key:i.keyok=ZB->∀vs,aH vs i.zero->∀b w,(Instr.checkKey b 10000 t (.agg vs.toArray)).run P w=.ok () w
 zsh:∀z,(∀w,(zeroValue t).run P w=.ok z w)->(i.agg=ZB->z=.agg z.cells)/\(i.agg=ZC->z.cells = #[z])
 info:∃CL z,P.info? t=ZA CL/\CL.size=i.size/\CL.bytes=i.bytes/\CL.zero=ZA z/\z.cells.toList.length=i.size/\∀(U:Env) j,Af U j i.zero=ZA z.cells.toList
def rZ(vk:List VK)(vw:Vw)(f:Nat)(args:List V):List Sm->Option (Sm×E)
 |[]=>ZE
 |s::l=>if ZJ s.f f then(match I8 vk vw s.args args with|some e=>ZA (s,e)|none=>rZ vk vw f args l)else rZ vk vw f args l
def qr{vk:List VK}{vw:Vw}{f:Nat}{args:List V}{s:Sm}{e:E}:∀{l:List Sm},rZ vk vw f args l=ZA (s,e)->s∈l/\s.f=f/\I8 vk vw s.args args=ZA e
 |x::l,h=>by
   simp only[rZ]at h;split at h
   .rename_i hf;split at h
    next e' he=>cases h;exact⟨bR,Ak hf,he⟩
    .have:=qr h;exact⟨cM _ this.1,this.2⟩
   .have:=qr h;exact⟨cM _ this.1,this.2⟩
def uu(key:Nat)(e:E):List (Nat×E×Nat)->Option Nat
 |[]=>ZE
 |(m,x,v0)::l=>if ZJ m key&&x.same e then ZA v0 else uu key e l
def sd{key:Nat}{e:E}{v0:Nat}:∀{l:List (Nat×E×Nat)},uu key e l=ZA v0->(key,e,v0)∈l
 |(m,x,u)::l,h=>by
   simp only[uu]at h;split at h
   next hm=>simp only[ne]at hm;cases h;rw[Ak hm.1,E.same_eq hm.2];exact bR
   .exact cM _ (sd h)
def xw:CK->VK
 |.int k=>.int k
 |.sl ks _=>.list ks
 |_=>.bool
def Ey(ev:Operand->Option V):List Operand->Option (List V)
 |[]=>ZA []
 |x::l=>match ev x,Ey ev l with
   |some v,ZA vs=>ZA (v::vs)
   |_,_=>ZE
def HK(ev:Operand->Option V):List Operand->Option (List (Option (Bool×Nat×Nat)))
 |[]=>ZA []
 |x::l=>match ev x,HK ev l with
   |some (.one (.ptr b o)),ZA vs=>ZA (ZA (ZB,b,o)::vs)
   |some (.one (.fp b o)),ZA vs=>ZA (ZA (ZC,b,o)::vs)
   |some (.one .np),ZA vs=>ZA (ZE::vs)
   |_,_=>ZE
def aiI(cx:Cx)(vw:Vw)(g:Nat)(args:List V)(kw:Kw)(k:Eff->Kw->Tr):Tr:=
 match rZ kw.vk vw g args cx.sm with
 |none=>.stuck (100000+g)
 |some (s,e)=>match s.inp with
   |some (ks,ty)=>match args with
     |[.one (.sl id)]=>match vw.sw id with
       |some r=>if r.own&&(dc r.ks ks&&ZJ r.ty ty)then
        .call s.key [.sl ks ty] (.N r.l .nil) kw.vk.length (k {val:=.tup [],rr:=[id],re:=.set id {r with l:=.g kw.vk.length}} {kw with vk:=kw.vk++[.list ks]})
         else .stuck 170
       |none=>.stuck 171
     |_=>.stuck 172
   |none=>match uu s.key e kw.log with
   |some v0=>k {val:=Oy s v0 vw.nid,rd:=uF s.args args,rr:=iD vw s.args args,re:=.mk (bz v0 0 s.ks)} kw
   |none=>.call s.key s.ks e kw.vk.length (k {val:=Oy s kw.vk.length vw.nid,rd:=uF s.args args,rr:=iD vw s.args args,re:=.mk (bz kw.vk.length 0 s.ks)} {kw with log:=(s.key,e,kw.vk.length)::kw.log,vk:=kw.vk++s.ks.map xw})
def anf(cx:Cx)(vw:Vw)(g:Nat)(args:List V)(kw:Kw)(k:Eff->Kw->Tr):Tr:=match am (800000+g) cx.hints with
 |none=>aiI cx vw g args kw k
 |some _=>.stuck 300
def M7(f:E->E->E)(k0:IntKind):E->List V->Option E
 |e,[]=>ZA e
 |e,.one (.int k x)::l=>if bE k k0 then M7 f k0 (f e x) l else ZE
 |_,_=>ZE
def aoP(cx:Cx):Bool:=(am 999999 cx.hints).isSome
def arv(cx:Cx):Nat:=if aoP cx then 3 else 12
def OZ(cx:Cx)(op:BinOp)(xt:Nat)(x y:V)(kw:Kw)(k:Eff->Kw->Tr):Tr:=
 match x,y with
 |.one (.int k1 a),.one (.int k2 b)=>
   match op with
   |.shl|.shr=>
     if k2.signed then AL (Bt b (.p 0)) (fun neg kw=>if neg then .panic else k {val:=.one (.int k1 (jX op k1 a b))} kw) kw
     else if b.rng kw.vk k2 then k {val:=.one (.int k1 (jX op k1 a b))} kw else .stuck 11
   |_=>
     if bE k1 k2 then
      match op with
      |.add|.sub|.mul|.and|.or|.xor|.andNot=>k {val:=.one (.int k1 (jX op k1 a b))} kw
      |.quo|.rem=>AL (Gi b (.p 0)) (fun z kw=>if z then .panic else k {val:=.one (.int k1 (jX op k1 a b))} kw) kw
      |.eql=>k {val:=.one (.bool (Gi a b))} kw
      |.neq=>k {val:=.one (.bool (ew (Gi a b)))} kw
      |.lss=>k {val:=.one (.bool (Bt a b))} kw
      |.leq=>k {val:=.one (.bool (ew (Bt b a)))} kw
      |.gtr=>k {val:=.one (.bool (Bt b a))} kw
      |.geq=>k {val:=.one (.bool (ew (Bt a b)))} kw
      |_=>.stuck 12
     else .stuck 13
 |.one (.bool a),.one (.bool b)=>
   match op with
   |.eql=>match am xt cx.ty with
     |some i=>if i.isb then k {val:=.one (.bool (Sn a b))} kw else .stuck 14
     |none=>.stuck 14
   |.neq=>match am xt cx.ty with
     |some i=>if i.isb then k {val:=.one (.bool (ew (Sn a b)))} kw else .stuck 14
     |none=>.stuck 14
   |_=>.stuck 15
 |.one (.clo _ _ _),.one .nf=>
   match am xt cx.ty with
   |some i=>if i.fnt then
    match op with
    |.eql=>k {val:=.one (.bool (.tt ZC))} kw
    |.neq=>k {val:=.one (.bool (.tt ZB))} kw
    | _=>.stuck 51
     else .stuck 52
   |none=>.stuck 52
 |.one (.fn _),.one .nf|.one .nf,.one .nf=>
   match am xt cx.ty with
   |some i=>if i.fnt then
    match op,x with
    |.eql,.one .nf=>k {val:=.one (.bool (.tt ZB))} kw
    |.neq,.one .nf=>k {val:=.one (.bool (.tt ZC))} kw
    |.eql,_=>k {val:=.one (.bool (.tt ZC))} kw
    |.neq,_=>k {val:=.one (.bool (.tt ZB))} kw
    | _,_=>.stuck 51
     else .stuck 52
   |none=>.stuck 52
 |.agg cs,.agg ds=>
   match am xt cx.ty,uv (arv cx) cs ds with
   |some i,ZA e=>
     if i.eqok&&((fy cs i.zero&&Ft kw.vk cs kw.vk 0)&&(fy ds i.zero&&Ft kw.vk ds kw.vk 0))then
      match op with
      |.eql=>k {val:=.one (.bool e)} kw
      |.neq=>k {val:=.one (.bool (ew e))} kw
      |_=>.stuck 16
     else .stuck 17
   |_,_=>.stuck 18
 |_,_=>.stuck 19
def tS(e:E)(n:Nat)(k:Nat->Kw->Tr):Nat->Kw->Tr
 |0,_=>.panic
 |m+1,kw=>AL (Gi e (.p (n-(m+1):Nat))) (fun b kw=>if b then k (n-(m+1)) kw else tS e n k m kw) kw
def Qa(cx:Cx)(ft:Nat)(cs:List C)(off:Nat):Option V:=
 match am ft cx.ty with
 |some i=>if i.agg then(if off+i.size<=cs.length then ZA (.agg ((cs.drop off).take i.size))else ZE)else(cs[off]?).map .one
 |none=>ZE
def kX:List C->Nat->List C->List C
 |cs,_,[]=>cs
 |cs,off,v::r=>kX (cs.set off v) (off+1) r
def qY(pl:Nat->Option (Nat×Nat)):List C->List (Nat×V)->Option (List C)
 |cs,[]=>ZA cs
 |cs,(i,v)::l=>match pl i with
   |some (off,size)=>if v.flat&&(ZJ v.cells.length size&&decide (off+size<=cs.length))then qY pl (kX cs off v.cells) l else ZE
   |none=>ZE
def K8(ev:Operand->Option V):List (Nat×Operand)->Option (List (Nat×V))
 |[]=>ZA []
 |(i,x)::l=>match ev x,K8 ev l with
   |some v,ZA vs=>ZA ((i,v)::vs)
   |_,_=>ZE
def oG(ty:List (Nat×TI)):List (Nat×Nat)->Option (List (Nat×Nat))
 |[]=>ZA []
 |(off,ft)::l=>match am ft ty,oG ty l with
   |some i,ZA r=>ZA ((off,i.size)::r)
   |_,_=>ZE
def aiM(cx:Cx)(t:Nat)(A5:List (Nat×V)):Option V:=
 match am t cx.ty with
 |some i=>match i.arr with
   |some (_,et)=>match am et cx.ty with
     |some ie=>(qY (fun m=>ZA (m*ie.size,ie.size)) i.zero A5).map .agg
     |none=>ZE
   |none=>if i.agg then(match oG cx.ty i.fields with
     |some pl=>(qY (fun m=>pl[m]?) i.zero A5).map .agg
     |none=>ZE)else ZE
 |none=>ZE
def E.isLit:E->Bool
 |.p _=>ZB
 |_=>ZC
def Kk(e:E)(n:Nat):E:=ib (ew (Bt e (.p 0))) (Bt e (.p n))
def L6(k:IntKind)(sz c:Nat):Nat->List C->Option E
 |0,_=>ZA .nil
 |n+1,cs=>match cs[c]?,L6 k sz c n (cs.drop sz)with
   |some (.int k' a),ZA t=>if bE k k' then ZA (.cons a t)else ZE
   |_,_=>ZE
def zp(e:E)(n sz:Nat)(cs:List C):Nat->Nat->Option (List C)
 |_,0=>ZA []
 |c,m+1=>match cs[c]? with
   |some (.int k _)=>match L6 k sz c n cs,zp e n sz cs (c+1) m with
     |some l,ZA r=>ZA (.int k (.nth e l)::r)
     |_,_=>ZE
   |_=>ZE
def Fi(c:E):Nat->List C->List C->Option (List C)
 |off+1,x::xs,vc=>(Fi c off xs vc).map (x::·)
 |0,xs,[]=>ZA xs
 |0,.int k a::xs,.int k' x::vc=>if bE k k' then(Fi c 0 xs vc).map (.int k (.ite c x a)::·)else ZE
 |_,_,_=>ZE
def Li(e:E)(off sz:Nat)(vc:List C):Nat->Nat->List C->Option (List C)
 |_,0,cs=>ZA cs
 |m,n+1,cs=>match Fi (.eq e (.p m)) off (cs.take sz) vc,Li e off sz vc (m+1) n (cs.drop sz)with
   |some a,ZA b=>ZA (a++b)
   |_,_=>ZE
def GF(e l:E):E:=ib (ew (Bt e (.p 0))) (Bt e (dG l))
def K5(vw:Vw):List V->E
 |[]=>.tt ZB
 |.one (.ep id _ e 0)::l=>match vw.sw id with
   |some r=>ib (GF e r.l) (K5 vw l)
   |none=>K5 vw l
 |_::l=>K5 vw l
def aq2(cx:Cx)(vw:Vw)(g:Nat)(args:List V)(kw:Kw)(k:Eff->Kw->Tr):Tr:=AL (K5 vw args) (fun b kw=>if b then anf cx vw g args kw k else .stuck 262) kw
def Iq(vk:List VK)(l:E):E:=match dG l with
 |.p z=>.p z
 |e=>if e.rng vk .i64 then e else .F .i64 e
def DU(a b:E):E:=match b with
 |.lq .ln r=>.lq a r
 |b=>match a with|.ln=>b|a=>.lcat a b
def EO:Int:=1073741824
def opK(cx:Cx)(vw:Vw)(op:Op)(kw:Kw)(k:Eff->Kw->Tr):Tr:=
 match op with
 |.move x|.assign x=>match vw.ev x with
   |some v=>k {val:=v} kw
   |none=>.stuck 1
 |.alloc t=>match am t cx.ty with
   |some i=>k {val:=.one (.ptr vw.nid 0),al:=ZA (i.zero,t)} kw
   |none=>.stuck 2
 |.box t x=>match vw.ev x with
   |some v=>if v.flat then k {val:=.one (.ptr vw.nid 0),al:=ZA (v.cells,t)} kw else .stuck 3
   |none=>.stuck 3
 |.load t x=>match vw.ev x,am t cx.ty with
   |some (.one (.ptr b o)),ZA i=>
     if i.agg then(match vw.row b o i.size with
      |some cs=>k {val:=.agg cs,rd:=dW b o i.size} kw
      |none=>.stuck 4)
     else(match vw.ld b o with
      |some c=>k {val:=.one c,rd:=[(b,o)]} kw
      |none=>.stuck 4)
   |some (.one (.fp b o)),ZA i=>
     if i.agg then(match(vw.fb b).bind fun cs=>R9 cs o i.size with
      |some cs=>if cs.all C.solid then k {val:=.agg cs} kw else .stuck 226
      |none=>.stuck 4)
     else(match(vw.fb b).bind (·[o]?)with
      |some c=>if c.solid then k {val:=.one c} kw else .stuck 226
      |none=>.stuck 4)
   |some (.one (.pe b o n sz e off)),ZA i=>match vw.row b o (n*sz)with
     |some cs=>if decide (off+i.size<=sz)then
      AL (Kk e n) (fun ok kw=>if ok then
       (match zp e n sz cs off i.size with
       |some ds=>if i.agg then k {val:=.agg ds,rd:=dW b o (n*sz)} kw else(match ds with
         |[d]=>k {val:=.one d,rd:=dW b o (n*sz)} kw
         |_=>.stuck 160)
       |none=>.stuck 161)
       else .stuck 162) kw
       else .stuck 163
     |none=>.stuck 164
   |some (.one (.ep id BC e off)),ZA i=>match vw.sw id with
     |some r=>if ZJ r.ks.length BC&&decide (off+i.size<=BC)then
      AL (GF e r.l) (fun b kw=>if b then
       (if i.agg then k {val:=.agg (VC r.l e off ((r.ks.drop off).take i.size)),rr:=[id]} kw
       else match r.ks[off]? with
        |some ck=>k {val:=.one (H7 r.l e off ck),rr:=[id]} kw
        |none=>.stuck 53)
       else .stuck 54) kw
       else .stuck 55
     |none=>.stuck 56
   |_,_=>.stuck 5
 |.store t x y=>match vw.ev x,vw.ev y,am t cx.ty with
   |some (.one (.ptr b o)),ZA v,ZA i=>if v.flat&&(ZJ v.cells.length i.size&&v.cells.all C.solid)then k {val:=.one .undef,wr:=eG b o v.cells} kw else .stuck 6
   |some (.one (.pe b o n sz e off)),ZA v,ZA i=>match vw.row b o (n*sz)with
     |some cs=>if v.flat&&(ZJ v.cells.length i.size&&(decide (off+i.size<=sz)&&ZJ cs.length (n*sz)))then
      AL (Kk e n) (fun ok kw=>if ok then
       (match Li e off sz v.cells 0 n cs with
       |some ds=>if ds.all C.solid&&(cs.all C.solid&&v.cells.all C.solid)then k {val:=.one .undef,rd:=dW b o (n*sz),wr:=eG b o ds} kw else .stuck 165
       |none=>.stuck 166)
       else .stuck 167) kw
       else .stuck 168
     |none=>.stuck 169
   |some (.one (.ep id BC e off)),ZA v,ZA i=>match vw.sw id with
     |some r=>if r.own&&(ZJ r.ks.length BC&&(v.flat&&(ZJ v.cells.length i.size&&decide (off+i.size<=BC))))then
      AL (GF e r.l) (fun b kw=>if b then
       (match fX kw.vk r.l e off (r.ks.drop off) v.cells with
        |some l=>k {val:=.one .undef,rr:=[id],re:=.set id {r with l:=l}} kw
        |none=>.stuck 57)
       else .stuck 58) kw
       else .stuck 59
     |none=>.stuck 62
   |_,_,_=>.stuck 7
 |.nilCheck x=>match vw.ev x with
   |some (.one (.ptr b o))=>k {val:=.one (.ptr b o)} kw
   |some (.one (.fp b o))=>k {val:=.one (.fp b o)} kw
   |some (.one (.pe b o n sz e off))=>k {val:=.one (.pe b o n sz e off)} kw
   |some (.one (.fn g))=>k {val:=.one (.fn g)} kw
   |some (.one (.ep id BC e off))=>k {val:=.one (.ep id BC e off)} kw
   |some (.one (.clo g fs ps))=>k {val:=.one (.clo g fs ps)} kw
   |some (.one .np)=>.panic
   |_=>.stuck 8
 |.binOp op xt x y _=>match vw.ev x,vw.ev y with
   |some v,ZA u=>OZ cx op xt v u kw k
   |_,_=>.stuck 9
 |.unOp op _ x=>match op,vw.ev x with
   |.not,ZA (.one (.bool e))=>k {val:=.one (.bool (ew e))} kw
   |.neg,ZA (.one (.int kd e))=>k {val:=.one (.int kd (jX .sub kd (.p 0) e))} kw
   |.xor,ZA (.one (.int kd e))=>k {val:=.one (.int kd (jX .xor kd (.p (if kd.signed then -1 else kd.max)) e))} kw
   |_,_=>.stuck 10
 |.convert s d x=>match vw.ev x,am d cx.ty,am s cx.ty with
   |some (.one (.int _ e)),ZA i,ZA _=>match i.ik with
     |some kd=>k {val:=.one (.int kd (if e.rng kw.vk kd then e else T8 kd e))} kw
     |none=>.stuck 20
   |_,_,_=>.stuck 21
 |.fieldAddr s x f=>match vw.ev x,am s cx.ty with
   |some (.one (.ptr b o)),ZA i=>match i.fields[f]? with
     |some (off,_)=>k {val:=.one (.ptr b (o+off))} kw
     |none=>.stuck 22
   |some (.one (.fp b o)),ZA i=>match i.fields[f]? with
     |some (off,_)=>k {val:=.one (.fp b (o+off))} kw
     |none=>.stuck 22
   |some (.one (.pe b o n sz e off0)),ZA i=>match i.fields[f]? with
     |some (off,_)=>k {val:=.one (.pe b o n sz e (off0+off))} kw
     |none=>.stuck 22
   |some (.one (.ep id BC e o)),ZA i=>match i.fields[f]? with
     |some (off,_)=>k {val:=.one (.ep id BC e (o+off))} kw
     |none=>.stuck 22
   |_,_=>.stuck 23
 |.field s x f=>match vw.ev x,am s cx.ty with
   |some (.agg cs),ZA i=>match i.fields[f]? with
     |some (off,ft)=>match Qa cx ft cs off with
       |some v=>k {val:=v} kw
       |none=>.stuck 24
     |none=>.stuck 25
   |_,_=>.stuck 26
 |.indexAddr t x y=>match vw.ev x,vw.ev y,am t cx.ty with
   |some (.one (.ptr b o)),ZA (.one (.int _ e)),ZA i=>match i.arr with
     |some (n,et)=>match am et cx.ty with
       |some ie=>if aoP cx&&(!e.isLit &&!ie.fnt)then AL (Kk e n) (fun ok kw=>if ok then k {val:=.one (.pe b o n ie.size e 0)} kw else .panic) kw else tS e n (fun m kw=>k {val:=.one (.ptr b (o+m*ie.size))} kw) n kw
       |none=>.stuck 27
     |none=>.stuck 28
   |some (.one (.ep id BC e0 o)),ZA (.one (.int _ e)),ZA i=>match i.arr with
     |some (n,et)=>match am et cx.ty with
       |some ie=>tS e n (fun m kw=>k {val:=.one (.ep id BC e0 (o+m*ie.size))} kw) n kw
       |none=>.stuck 27
     |none=>.stuck 28
   |some (.one (.sl id)),ZA (.one (.int _ e)),ZA i=>match i.sle with
     |some et=>match am et cx.ty,vw.sw id with
       |some ie,ZA r=>if ZJ r.ks.length ie.size then AL (GF e r.l) (fun b kw=>if b then k {val:=.one (.ep id ie.size e 0),rr:=[id]} kw else .panic) kw else .stuck 63
       |_,_=>.stuck 64
     |none=>.stuck 65
   |some (.one .nsl),ZA (.one (.int _ _)),ZA _=>.panic
   |_,_,_=>.stuck 29
 |.index t x y=>match vw.ev x,vw.ev y,am t cx.ty with
   |some (.agg cs),ZA (.one (.int _ e)),ZA i=>match i.arr with
     |some (n,et)=>match am et cx.ty with
       |some ie=>tS e n (fun m kw=>match Qa cx et cs (m*ie.size)with
         |some v=>k {val:=v} kw
         |none=>.stuck 30) n kw
       |none=>.stuck 31
     |none=>.stuck 32
   |_,_,_=>.stuck 33
 |.pick c x y=>match vw.ev c,vw.ev x,vw.ev y with
   |some (.one (.bool e)),ZA u,ZA v=>AL e (fun b kw=>k {val:=if b then u else v} kw) kw
   |_,_,_=>.stuck 42
 |.build t ps=>match K8 vw.ev ps.toList with
   |some A5=>match aiM cx t A5 with
     |some v=>k {val:=v} kw
     |none=>.stuck 43
   |none=>.stuck 44
 |.buildSlice t n ps=>match K8 vw.ev ps.toList,am t cx.ty with
   |some A5,ZA i=>match i.sle with
     |some et=>match am et cx.ty with
       |some ie=>match JJ ie.zero,qY (fun m=>ZA (m*ie.size,ie.size)) ((ZM n ie.zero).flatten) A5 with
         |some ks,ZA cs=>match PQ kw.vk ks n cs with
           |some l=>if decide (n*ie.size<=16777216)&&(decide (0<ie.size)&&ZJ ks.length ie.size)then k {val:=.one (.sl vw.nid),re:=.mk [⟨ks,et,l,ZB,.sl⟩]} kw else .stuck 66
           |none=>.stuck 67
         |_,_=>.stuck 68
       |none=>.stuck 69
     |none=>.stuck 74
   |_,_=>.stuck 75
 |.makeSlice t x y=>match vw.ev x,vw.ev y,am t cx.ty with
   |some (.one (.int _ e)),ZA (.one (.int _ e')),ZA i=>match i.sle with
     |some et=>match am et cx.ty with
       |some ie=>match JJ ie.zero with
         |some ks=>match Gc kw.vk ks ie.zero with
           |some r=>if e.same e'&&(decide (0<ie.size)&&(ZJ ks.length ie.size&&decide (ie.bytes<=65536)))then
            AL (Bt e (.p 0)) (fun b kw=>if b then .panic else AL (Bt e (.p EO)) (fun b kw=>if b then
             k {val:=.one (.sl vw.nid),re:=.mk [⟨ks,et,.lrep e r,ZB,.sl⟩]} kw else .panic) kw) kw
             else .stuck 76
           |none=>.stuck 77
         |none=>.stuck 78
       |none=>.stuck 79
     |none=>.stuck 84
   |_,_,_=>.stuck 85
 |.slice t x lo hi ZE=>.stuck 300
 |.makeMap t ZE=>.stuck 300
 |.lookup t x y ok=>.stuck 300
 |.mapUpdate t x y z=>.stuck 300
 |.range t x=>.stuck 300
 |.entry x=>.stuck 300
 |.makeFunc fn fs ps=>match fn,HK vw.ev fs.toList,HK vw.ev ps.toList with
   |.func g,ZA a,ZA b=>k {val:=.one (.clo g a b)} kw
   |_,_,_=>.stuck 119
 |.extract x n=>match vw.ev x with
   |some (.tup vs)=>match vs[n]? with
     |some (ZB,cs)=>k {val:=.agg cs} kw
     |some (ZC,[c])=>k {val:=.one c} kw
     |_=>.stuck 34
   |_=>.stuck 35
 |.call c=>match c.callee with
   |.value f=>match vw.ev f,Ey vw.ev c.args.toList with
     |some (.one (.fn g)),ZA args=>aq2 cx vw g args kw k
     |_,_=>.stuck 36
   |.builtin .len=>match Ey vw.ev c.args.toList,c.argTypes.toList with
     |some [.one (.sl id)],[t]=>match am t cx.ty,vw.sw id with
       |some i,ZA r=>if i.sle.isSome then k {val:=.one (.int .i64 (Iq kw.vk r.l)),rr:=[id]} kw else .stuck 91
       |_,_=>.stuck 92
     |some [.one .nsl],[t]=>match am t cx.ty with
       |some i=>if i.sle.isSome then k {val:=.one (.int .i64 (.p 0))} kw else .stuck 91
       |none=>.stuck 92
     |_,_=>.stuck 93
   |.builtin .append=>match Ey vw.ev c.args.toList,c.argTypes.toList with
     |some [.one s,.one (.sl id)],[t,t']=>match am t cx.ty,vw.sw id with
       |some i,ZA r=>match i.sle with
         |some et=>match am et cx.ty with
           |some ie=>if ZJ t t'&&(ZJ r.ty et&&(ZJ r.ks.length ie.size&&(decide (0<ie.size)&&decide (ie.bytes<=65536))))then
            (match s with
            |.nsl=>AL (Bt (dG r.l) (.p EO)) (fun b kw=>if b then k {val:=.one (.sl vw.nid),rr:=[id],re:=.mk [⟨r.ks,et,r.l,ZB,.sl⟩]} kw else .panic) kw
            |.sl old=>match vw.sw old with
              |some q=>if q.own&&(ZJ q.ty et&&(dc q.ks r.ks &&!ZJ old id))then
               AL (ib (Bt (dG q.l) (.p EO)) (Bt (dG r.l) (.p EO))) (fun b kw=>if b then k {val:=.one (.sl vw.nid),rr:=[old,id],re:=.app old ⟨r.ks,et,DU q.l r.l,ZB,.sl⟩} kw else .panic) kw
                else .stuck 94
              |none=>.stuck 95
            | _=>.stuck 96)
             else .stuck 97
           |none=>.stuck 98
         |none=>.stuck 99
       |_,_=>.stuck 101
     |_,_=>.stuck 102
   |.builtin .min=>match Ey vw.ev c.args.toList with
     |some (.one (.int k0 e)::l)=>match M7 Sw k0 e l with
       |some e'=>k {val:=.one (.int k0 e')} kw
       |none=>.stuck 37
     |_=>.stuck 38
   |.builtin .max=>match Ey vw.ev c.args.toList with
     |some (.one (.int k0 e)::l)=>match M7 RB k0 e l with
       |some e'=>k {val:=.one (.int k0 e')} kw
       |none=>.stuck 39
     |_=>.stuck 40
   |_=>.stuck 41
 |_=>.stuck 50
def FI(U:Env)(j:J)(w:World)(ld:Nat->Nat->Option C)(rd:List (Nat×Nat)):Prop:=∀p∈rd,∀c,ld p.1 p.2=ZA c->∃k v,j.b p.1=ZA k/\c.den U j=ZA v/\w.cell? ⟨k,p.2,ZE⟩=ZA v
def ME(j:J)(w:World)(wr:List (Nat×Nat×C)):Prop:=∀p∈wr,∃k u,j.b p.1=ZA k/\w.cell? ⟨k,p.2.1,ZE⟩=ZA u/\w.frozen? ⟨k,p.2.1,ZE⟩=ZC
def sD(U:Env)(j:J):List (Nat×Nat×C)->World->World->Prop
 |[],w,w'=>w'=w
 |(b,o,c)::l,w,w'=>∃k v,j.b b=ZA k/\c.den U j=ZA v/\sD U j l (w.setCell ⟨k,o,ZE⟩ v) w'
def dn:∀{ks:List CE} {r:List Int},av ks r=ZB->(Bi ks r).length=ks.length
 |[],[],_=>rfl
 |k::ks,x::xs,h=>by simp only[av,ne]at h;simp[Bi,dn h.2]
def oE:∀{ks:List CE} {r:List Int} {c:Nat} {k:CE},av ks r=ZB->ks[c]? =ZA k->(Bi ks r)[c]? =ZA (ko k (r.getD c 0))
 |k0::ks,x::xs,c,k,h,hc=>by
   simp only[av,ne]at h;cases c with
   |zero=>simp at hc;subst hc;simp[Bi]
   |succ c=>simpa[Bi]using oE h.2 Yq
 |[],_,c,k,_,hc=>by simp at hc
def aa5:∀{ks:List CE} {r:List Int} {c:Nat} {k:CE},av ks r=ZB->ks[c]? =ZA k->∀x,(Bi ks r).set c (ko k x)=Bi ks (r.set c x)
 |k0::ks,y::ys,c,k,h,hc,x=>by
   simp only[av,ne]at h;cases c with
   |zero=>simp at hc;subst hc;simp[Bi]
   |succ c=>simp[Bi,aa5 h.2 Yq x]
 |[],_,c,k,_,hc,_=>by simp at hc
def alk(ks:List CE):flat ks []=[]:=rfl
def cH(ks:List CE)(r:List Int)(L:LL):flat ks (r::L)=Bi ks r++flat ks L:=by simp[flat]
def qq(ks:List CE)(L M:LL):flat ks (L++M)=flat ks L++flat ks M:=by simp[flat]
def bP{ks:List CE}:∀{L:LL},(∀r∈L,av ks r=ZB)->(flat ks L).length=L.length*ks.length
 |[],_=>by simp[flat]
 |r::L,h=>by rw[cH,eg,dn (h r bR),bP (fun x hx=>h x (cM _ hx)),YS,Nat.succ_mul,Nat.add_comm]
def mJ{ks:List CE}{c:Nat}{k:CE}(hc:ks[c]? =ZA k):∀{L:LL} {i:Nat},(∀r∈L,av ks r=ZB)->i<L.length->(flat ks L)[i*ks.length+c]? =ZA (ko k ((L.getD i []).getD c 0))
 |[],i,_,hi=>absurd hi (by simp)
 |r::L,i,h,hi=>by
   have CV:c<ks.length:=by
    rcases bt c ks.length with h1|h1
    .exact h1
    .rw[cf h1]at hc;cases hc
   have hl:=dn (h r bR);cases i with
   |zero=>rw[cH,Nat.zero_mul,bJ,A9 Fn,oE (h r bR) hc];rfl
   |succ i=>rw[cH,Bl Yo,hl,show(i+1)*ks.length+c-ks.length=i*ks.length+c by rw[Nat.succ_mul];omega];rw[mJ hc (fun x hx=>h x (cM _ hx)) XS];rfl
def xf{ks:List CE}:∀{L:LL} (n:Nat),(∀r∈L,av ks r=ZB)->(flat ks L).take (n*ks.length)=flat ks (L.take n)
 |[],n,_=>by simp[flat]
 |r::L,n,h=>by
   have hl:=dn (h r bR);cases n with
   |zero=>simp[flat]
   |succ n=>rw[cH,List.take_succ_cons,cH,<-xf n (fun x hx=>h x (cM _ hx)),List.take_append,hl,Nat.succ_mul,List.take_of_length_le Fn];congr 2;omega
def xg{ks:List CE}:∀{L:LL} (n:Nat),(∀r∈L,av ks r=ZB)->(flat ks L).drop (n*ks.length)=flat ks (L.drop n)
 |[],n,_=>by simp[flat]
 |r::L,n,h=>by
   have hl:=dn (h r bR);cases n with
   |zero=>simp[flat]
   |succ n=>rw[cH,List.drop_succ_cons,<-xg n (fun x hx=>h x (cM _ hx)),List.drop_append,hl,Nat.succ_mul,List.drop_of_length_le Fn,ZQ];congr 1;omega
def abW{ks:List CE}{c:Nat}{k:CE}(hc:ks[c]? =ZA k)(x:Int):∀{L:LL} {i:Nat},(∀r∈L,av ks r=ZB)->i<L.length->(flat ks L).set (i*ks.length+c) (ko k x)=flat ks (L.set i ((L.getD i []).set c x))
 |[],i,_,hi=>absurd hi (by simp)
 |r::L,i,h,hi=>by
   have CV:c<ks.length:=by
    rcases bt c ks.length with h1|h1
    .exact h1
    .rw[cf h1]at hc;cases hc
   have hl:=dn (h r bR);cases i with
   |zero=>rw[cH,Nat.zero_mul,bJ,List.set_append_left _ _ Fn,aa5 (h r bR) hc];rfl
   |succ i=>rw[cH,List.set_append_right _ _ Yo,hl,show(i+1)*ks.length+c-ks.length=i*ks.length+c by rw[Nat.succ_mul];omega];rw[abW hc x (fun y hy=>h y (cM _ hy)) XS];show _=flat ks (r::L.set i _);rw[cH];rfl
def ut{ks:List CE}:∀{L:LL},∀u∈flat ks L,u.oneCell'=ZB:=by
 have row:∀(ks:List CE) (r:List Int),∀u∈Bi ks r,u.oneCell'=ZB:=by
  intro ks
  induction ks with
  |nil=>intro r u hu;simp[Bi]at hu
  |cons k ks ih=>
    intro r u hu;cases r with
    |nil=>simp[Bi]at hu
    |cons x xs=>
      simp only[Bi,YT]at hu;rcases hu with rfl|hu
      .cases k<;>rfl
      .exact ih xs u hu
 intro L u hu;simp only[flat,List.mem_flatMap]at hu;obtain⟨r,_,hu⟩:=hu;exact row ks r u hu
structure SlOk(U:Env)(base:Nat)(w:World)(s:SV)(r:RowOb):Prop where
 n:s.n=(r.l.R U).length
 rows:RowsIn r.ks (r.l.R U)
 pos:0<r.ks.length
 lt:∀k,s.blk r.own=ZA k->k<w.heap.size
 own:r.own=ZB->w.ownsRow base r.ty r.ks.length s.v s.n (flat r.ks (r.l.R U))
 rd:RdRow w r.ks.length s (flat r.ks (r.l.R U))
def anc(agg:Bool)(vs:List Value):Value:=if agg then .agg vs.toArray else vs.headD undef
def Xm(ks:List CE)(nk:Nat)(ka va:Bool)(i:Nat)(r:List Int):MapEntry:=⟨anc ka ((Bi ks r).take nk),anc va ((Bi ks r).drop nk),i⟩
def atL(ks:List CE)(nk:Nat)(ka va:Bool):Nat->LL->List MapEntry
 |_,[]=>[]
 |i,r::L=>Xm ks nk ka va i r::atL ks nk ka va (i+1) L
def idxs(L:LL):List Nat:=L.map fun r=>(r.getD 0 0).toNat
def Ln(U:Env)(s:SV)(r:RowOb)(o:Obj):Prop:=
 match r.kd with
 |.sl=>False
 |.ev=>False
 |.map nk ka va=>o=.map (atL r.ks nk ka va 0 (r.l.R U)).toArray (r.l.R U).length
 |.tab=>∃(ps:List (Option Addr)) (ty:Nat),o=.cells (ps.map Value.pointer).toArray ty (0,0)
 |.it _ n=>r.ks=[ZA .i64]/\o=.mapIter (ZA s.n) (n.I U).toNat (idxs (r.l.R U)).toArray (n.I U).toNat/\(r.l.R U).Nodup/\∀x∈r.l.R U,0<=x.getD 0 0/\x.getD 0 0<n.I U
structure HdOk(U:Env)(base:Nat)(w:World)(s:SV)(r:RowOb):Prop where
 own:r.own=ZB
 rows:RowsIn r.ks (r.l.R U)
 c:s.c=1
 at':∃g o,s.a=ZA ⟨g,0,ZE⟩/\base<=g/\w.heap[g]? =ZA o/\Ln U s r o
structure EiOk(z:List (Nat×Obj))(row:List Int)(x:SV):Prop where
 n:(x.n:Int)=row.getD 2 0
 most:x.n<=5
 rest:(row.drop 3).drop x.n=ZM (5-x.n) 0
 rd:∀w:World,(∀p∈z,w.heap[p.1]? =ZA p.2)->RdRow w 1 x (ain row)
 blk:∀k,x.blk ZC=ZA k->∃o,(k,o)∈z
def EiOk.mono{z z':List (Nat×Obj)}{row:List Int}{x:SV}(h:EiOk z row x)(hz:∀p∈z,p∈z'):EiOk z' row x:=⟨h.n,h.most,h.rest,fun w hw=>h.rd w (fun p hp=>hw p (hz p hp)),fun k hk=>let⟨o,ho⟩:=h.blk k hk;⟨o,hz _ ho⟩⟩
structure EvOk(U:Env)(base:Nat)(w:World)(s:SV)(r:RowOb):Prop where
 ks:r.ks=Do
 n:s.n=(r.l.R U).length
 rows:RowsIn r.ks (r.l.R U)
 lt:∀k,s.blk r.own=ZA k->k<w.heap.size
 zb:r.own=ZB->∀p∈s.z,base<=p.1
 at':∃ins:List SV,ins.length=(r.l.R U).length/\(r.own=ZB->w.ownsRow base r.ty 3 s.v s.n (gT (r.l.R U) ins))/\RdRow w 3 s (gT (r.l.R U) ins)/\∀(i:Nat) row x,(r.l.R U)[i]? =ZA row->ins[i]? =ZA x->EiOk s.z row x
def RowOk(U:Env)(base:Nat)(w:World)(s:SV)(r:RowOb):Prop:=(r.kd=.sl->SlOk U base w s r)/\(r.kd.isHd=ZB->HdOk U base w s r)/\(r.kd=.ev->EvOk U base w s r)
def SlOk.row{U:Env}{s:SV}{r:RowOb}(h:SlOk U base w s r)(hk:r.kd=.sl):RowOk U base w s r:=⟨fun _=>h,fun hn=>(by rw[hk]at hn;cases hn),fun hn=>(by rw[hk]at hn;cases hn)⟩
def HdOk.row{U:Env}{s:SV}{r:RowOb}(h:HdOk U base w s r)(hk:r.kd.isHd=ZB):RowOk U base w s r:=⟨fun e=>(by rw[e]at hk;cases hk),fun _=>h,fun e=>(by rw[e]at hk;cases hk)⟩
def EvOk.row{U:Env}{s:SV}{r:RowOb}(h:EvOk U base w s r)(hk:r.kd=.ev):RowOk U base w s r:=⟨fun e=>(by rw[e]at hk;cases hk),fun e=>(by rw[hk]at e;cases e),fun _=>h⟩
def RowOk.cases{U:Env}{s:SV}{r:RowOb}(h:RowOk U base w s r):(r.kd=.sl/\SlOk U base w s r)\/(r.kd.isHd=ZB/\HdOk U base w s r)\/(r.kd=.ev/\EvOk U base w s r):=by
 cases hk:r.kd with
 |sl=>exact .inl ⟨rfl,h.1 hk⟩
 |map a b c=>exact .inr (.inl ⟨rfl,h.2.1 (by rw[hk];rfl)⟩)
 |it a b=>exact .inr (.inl ⟨rfl,h.2.1 (by rw[hk];rfl)⟩)
 |tab=>exact .inr (.inl ⟨rfl,h.2.1 (by rw[hk];rfl)⟩)
 |ev=>exact .inr (.inr ⟨rfl,h.2.2 hk⟩)
def RowOk.rows{U:Env}{s:SV}{r:RowOb}(h:RowOk U base w s r):RowsIn r.ks (r.l.R U):=by rcases h.cases with⟨_,h⟩|⟨_,h⟩|⟨_,h⟩<;>exact h.rows
def HdOk.blk{U:Env}{s:SV}{r:RowOb}(h:HdOk U base w s r){k:Nat}(hk:s.blk o=ZA k):∃ob,s.a=ZA ⟨k,0,ZE⟩/\base<=k/\w.heap[k]? =ZA ob/\Ln U s r ob/\k<w.heap.size:=by obtain⟨g,ob,h1,h2,h3,h4⟩:=h.at';have e:=aA hk;simp only[SV.v,h1,Value.ownBlock,bv]at e;subst e;exact⟨ob,h1,h2,h3,h4,(hG.1 h3).1⟩
def HdOk.blkAt{U:Env}{s:SV}{r:RowOb}(h:HdOk U base w s r)(hg:s.a=ZA ⟨g,0,ZE⟩)(o:Bool):s.blk o=ZA g:=by unfold SV.blk;rw[if_pos (by rw[h.c];cases o<;>rfl)];simp[SV.v,hg,Value.ownBlock]
def pU{ty:Nat}{s:SV}{xs:List Value}(h:w.ownsRow base ty BC s.v s.n xs):RdRow w BC s xs:=by
 obtain⟨hl,h⟩:=h;rcases h with⟨hv,hn⟩|⟨g,Hp,cur,hv,hb,hg,hn,hm,hs,ht⟩
 .obtain⟨a,n,c,z⟩:=s;simp only[SV.v,Value.slice.injEq]at hv;obtain⟨rfl,rfl,rfl⟩:=hv;exact⟨hl,ZK _,by simp[maxLen],fun _=>⟨rfl,rfl⟩,fun a ha=>by cases ha⟩
 .obtain⟨a,n,c,z⟩:=s;simp only[SV.v,Value.slice.injEq]at hv;obtain⟨rfl,-,rfl⟩:=hv;refine⟨hl,hn,hm,fun h=>Xo,fun a ha i u hu=> ?_⟩;cases ha;have:(⟨g,0,ZE⟩:Addr).add i=⟨g,i,ZE⟩:=XV;rw[this,cell_of_row w g i cur ty (0,0) hg,<-lx];rw[<-ht]at hu;simp only at hl hu;rw[List.getElem?_take]at hu;split at hu
  .exact hu
  .cases hu
def rH{ty:Nat}{s:SV}{n:Nat}{xs:List Value}(h:w.ownsRow base ty BC s.v n xs):∀k,s.v.ownBlock=ZA k->k<w.heap.size/\base<=k:=by
 intro k hk;rcases h.2 with⟨hv,hn⟩|⟨g,Hp,cur,hv,hb,hg,_⟩
 .rw[hv]at hk;cases hk
 .rw[hv]at hk;cases hk;refine⟨?_,hb⟩;rcases bt g w.heap.size with h1|h1
  .exact h1
  .rw[Array.getElem?_eq_none h1]at hg;cases hg
def RowOk.lt{U:Env}{s:SV}{r:RowOb}(h:RowOk U base w s r):∀k,s.blk r.own=ZA k->k<w.heap.size:=by
 intro k hk;rcases h.cases with⟨_,h⟩|⟨_,h⟩|⟨_,h⟩
 .exact h.lt k hk
 .obtain⟨_,_,_,_,_,h5⟩:=h.blk hk;exact h5
 .exact h.lt k hk
def SlOk.mk_own{U:Env}{s:SV}{r:RowOb}(h1:s.n=(r.l.R U).length)(h2:RowsIn r.ks (r.l.R U))(h3:0<r.ks.length)(h4:w.ownsRow base r.ty r.ks.length s.v s.n (flat r.ks (r.l.R U))):SlOk U base w s r:=⟨h1,h2,h3,fun k hk=>(rH h4 k (aA hk)).1,fun _=>h4,pU h4⟩
def RowOk.owned{U:Env}{s:SV}{r:RowOb}(h:RowOk U base w s r)(ho:r.own=ZB):∀k,s.v.ownBlock=ZA k->k<w.heap.size/\base<=k:=by
 intro k hk;rcases h.cases with⟨_,h⟩|⟨_,h⟩|⟨_,h⟩
 .exact rH (h.own ho) k hk
 .obtain⟨g,ob,h1,h2,h3,h4⟩:=h.at';simp only[SV.v,h1,Value.ownBlock,bv]at hk;subst hk;exact⟨(hG.1 h3).1,h2⟩
 .obtain⟨ins,_,h2,_⟩:=h.at';exact rH (h2 ho) k hk
def RowOk.mk_own{U:Env}{s:SV}{r:RowOb}(hk:r.kd=.sl)(h1:s.n=(r.l.R U).length)(h2:RowsIn r.ks (r.l.R U))(h3:0<r.ks.length)(h4:w.ownsRow base r.ty r.ks.length s.v s.n (flat r.ks (r.l.R U))):RowOk U base w s r:=(SlOk.mk_own h1 h2 h3 h4).row hk
def NewZ(w w':World)(svs:List SV)(u:SV):Prop:=∀p∈u.z,w'.heap[p.1]? =ZA p.2/\Cg p.2=ZB/\w.heap.size<=p.1/\∀u'∈svs,u'.v.ownBlock≠ZA p.1
def NewZ.nil{svs:List SV}{u:SV}(h:u.z=[]):NewZ w w' svs u:=fun p hp=>by rw[h]at hp;cases hp
structure RetOk(res:List Sh)(tup:Bool)(w w':World)(X:List Dt)(v:Value):Prop where
 ext:Ext w w'
 rng:gE (res.flatMap (·.cks)) X
 svs:∃svs:List SV,svs.length=((res.flatMap (·.cks)).filter CK.isSl).length/\
     (∀(U:Env) v0 nid (j:J),eqs U X v0 0 (res.flatMap (·.cks))->(∀(i:Nat) u,svs[i]? =ZA u->j.s (nid+i)=ZA u)->(fY res tup v0 nid).den U j=ZA v)/\
     (∀(U:Env) v0,eqs U X v0 0 (res.flatMap (·.cks))->∀(i:Nat) u r,svs[i]? =ZA u->(bz v0 0 (res.flatMap (·.cks)))[i]? =ZA r->RowOk U w.heap.size w' u r)/\
     (∀(i i':Nat) u u' k,svs[i]? =ZA u->svs[i']? =ZA u'->u.v.ownBlock=ZA k->u'.v.ownBlock=ZA k->i=i')/\∀u∈svs,NewZ w w' svs u
def InOk(P:Program)(sp:Spec)(s:Sm)(ks:List CE)(ty:Nat):Prop:=
 ∀L,sp.pre s.key [.l L]->∃L',sp.F s.key [.l L]=[.l L']/\RowsIn ks L'/\∀base sv w,OwnRow w base ty ks sv L->
   (callFunc s.f #[sv.v]).run P w=.ok (.enter s.f #[sv.v]) w/\Calls P s.f #[sv.v] w fun e w'=>e=.returned (.tuple #[])/\OwnRow w' base ty ks sv L'/\w.grownBy w' sv.v.ownBlock
structure SmOk(P:Program)(sp:Spec)(s:Sm):Prop where
 calls:s.inp=ZE->∀xs vals w,nq w s.args xs vals->sp.pre s.key xs->sp.hw w->
   (∃v w',(callFunc s.f vals.toArray).run P w=.ok (.value v) w'/\RetOk s.res s.tup w w' (sp.F s.key xs) v)\/((callFunc s.f vals.toArray).run P w=.ok (.enter s.f vals.toArray) w/\Calls P s.f vals.toArray w fun e w'=>∃v,e=.returned v/\RetOk s.res s.tup w w' (sp.F s.key xs) v)
 inpl:∀ks ty,s.inp=ZA (ks,ty)->InOk P sp s ks ty
 rng:∀xs,Si s.args xs->sp.pre s.key xs->∀(U:Env) v0,eqs U (sp.F s.key xs) v0 0 s.ks->(∀(n:Nat) k,s.ks[n]? =ZA (.int k)->Ae k (U.i (v0+n))=ZB)/\(∀(n:Nat) ks ty,s.ks[n]? =ZA (.sl ks ty)->RowsIn ks (U.l (v0+n)))
def Zin(j:J)(s:SV):Prop:=∀p∈s.z,j.g.z p.1=ZA p.2/\Cg p.2=ZB
def Zin.nil{j:J}{s:SV}(h:s.z=[]):Zin j s:=fun p hp=>by rw[h]at hp;cases hp
def PtIs(j:J)(ks:List CE)(row:List Int):Option Addr->Prop
 |none=>row.getD 0 0=0
 |some a=>row.getD 0 0=1/\(∃b o,a=⟨b,o,ZE⟩)/\∃vs ty,j.g.z a.block=ZA (.cells vs ty (0,0))/\∀(c:Nat) v,(Bi ks row)[c+1]? =ZA v->vs[a.off+c]? =ZA v
def TbAt(U:Env)(j:J)(w:World)(s:SV)(r:RowOb):Prop:=
 ∃(g:Nat) (ps:List (Option Addr)) (ty:Nat),s.a=ZA ⟨g,0,ZE⟩/\w.heap[g]? =ZA (.cells (ps.map Value.pointer).toArray ty (0,0))/\ps.length=(r.l.R U).length/\
  ∀(i:Nat) row p,(r.l.R U)[i]? =ZA row->ps[i]? =ZA p->PtIs j r.ks row p
def PtIs.mono{j j':J}{ks:List CE}{row:List Int}{p:Option Addr}(h:PtIs j ks row p)(hz:∀k o,Cg o=ZB->j.g.z k=ZA o->j'.g.z k=ZA o):PtIs j' ks row p:=by
 cases p with
 |none=>exact h
 |some a=>obtain⟨h1,h2,vs,ty,h3,h4⟩:=h;exact⟨h1,h2,vs,ty,hz _ _ rfl h3,h4⟩
def TbAt.mono{U U':Env}{j j':J}{s:SV}{r r':RowOb}(h:TbAt U j w s r)(hl:r'.l.R U'=r.l.R U)(hk:r'.ks=r.ks)(hz:∀k o,Cg o=ZB->j.g.z k=ZA o->j'.g.z k=ZA o)(hw:∀g,s.a=ZA ⟨g,0,ZE⟩->w'.heap[g]? =w.heap[g]?):TbAt U' j' w' s r':=by obtain⟨g,ps,ty,h1,h2,h3,h4⟩:=h;refine⟨g,ps,ty,h1,by rw[hw g h1];exact h2,by rw[hl];exact h3,fun i row p hr hp=> ?_⟩;rw[hk];exact(h4 i row p (by rw[<-hl];exact hr) hp).mono hz
def RrOk(U:Env)(base:Nat)(j:J)(w:World)(rw:Nat->Option RowOb)(rr:List Nat):Prop:=∀id∈rr,∀r,rw id=ZA r->∃s,j.s id=ZA s/\RowOk U base w s r/\Zin j s/\(∀p∈s.z,w.heap[p.1]? =ZA p.2)/\(r.kd=.tab->TbAt U j w s r/\∀k o,j.g.z k=ZA o->w.heap[k]? =ZA o)
def EiOk.told{z:List (Nat×Obj)}{row:List Int}{x:SV}(h:EiOk z row x)(hz:∀p∈z,w.heap[p.1]? =ZA p.2/\Cg p.2=ZB):EvIn w row x:=⟨h.n,h.most,h.rest,h.rd w (fun p hp=>(hz p hp).1),fun k hk=>let⟨o,ho⟩:=h.blk k hk;⟨o,hz _ ho⟩⟩
def EvOk.told{U:Env}{j:J}{s:SV}{r:RowOb}(h:EvOk U base w s r)(hz:Zin j s/\∀p∈s.z,w.heap[p.1]? =ZA p.2):∃ins:List SV,ins.length=(r.l.R U).length/\RdRow w 3 s (gT (r.l.R U) ins)/\∀(i:Nat) row x,(r.l.R U)[i]? =ZA row->ins[i]? =ZA x->EvIn w row x:=by obtain⟨ins,h1,_,h2,h3⟩:=h.at';exact⟨ins,h1,h2,fun i row x hr hx=>(h3 i row x hr hx).told (fun p hp=>⟨hz.2 p hp,(hz.1 p hp).2⟩)⟩
def RdRow.nil{n:Nat}:RdRow w n ⟨ZE,0,0,[]⟩ []:=⟨by simp,ZK _,by simp[maxLen],fun _=>⟨rfl,rfl⟩,fun a ha=>(by cases ha)⟩
def TRow.nil{ks:List CE}:TRow w ks ⟨ZE,0,0,[]⟩ []:=by
 unfold TRow;split
 .exact⟨[],rfl,.nil,fun i row x h=>by simp at h⟩
 .exact .nil
def RrOk.sl{U:Env}{j:J}{vw:Vw}{rr:List Nat}(h:RrOk U base j w vw.rw rr)(id:Nat)(Ik:id∈rr)(r:RowOb)(hr:vw.sw id=ZA r):∃s,j.s id=ZA s/\SlOk U base w s r:=by obtain⟨h1,h2⟩:=Vw.sw_some hr;obtain⟨s,h3,h4,_⟩:=h id Ik r h1;exact⟨s,h3,h4.1 h2⟩
def jG(cs:List C)(o:Nat):Bool:=(cs.getD o .undef).solid
def NQ(hw:World->Prop)(U:Env)(j:J)(w:World)(fb:Nat->Option (List C)):Prop:=hw w/\
 ∀b cs,fb b=ZA cs->∃k vs,j.f b=ZA k/\k<w.heap.size/\Af U j cs=ZA vs/\∀o v,vs[o]? =ZA v->jG cs o=ZB->w.cell? ⟨k,o,ZE⟩=ZA v
def J.putS(j:J)(id:Nat)(s:SV):J:={j with s:=fun b=>if b=id then ZA s else j.s b}
def Gh.setz(g:Gh)(l:Nat)(x:Option Obj):Gh:=⟨g.y,fun k=>if k=l then x else g.z k⟩
def J.setz(j:J)(l:Nat)(x:Option Obj):J:={j with g:=j.g.setz l x}
def J.addz(j:J):List (Nat×Obj)->J
 |[]=>j
 |p::_=>j.setz p.1 (ZA p.2)
def Gh.setzs(g:Gh)(l:List (Nat×Obj)):Gh:=⟨g.y,fun k=>match l.find? (fun p=>ZJ p.1 k)with|some p=>ZA p.2|none=>g.z k⟩
def J.addzs(j:J):List (Nat×Obj)->J
 |[]=>j
 |l=>{j with g:=j.g.setzs l}
def arh(j:J)(l:List (Nat×Obj)):(j.addzs l).s=j.s:=by cases l<;>rfl
def ai2(j:J)(l:List (Nat×Obj)):(j.addzs l).s=j.s/\(j.addzs l).b=j.b/\(j.addzs l).f=j.f/\(j.addzs l).g.y=j.g.y:=by cases l<;>exact⟨rfl,rfl,rfl,rfl⟩
def zB(j:J)(l:List (Nat×Obj))(k:Nat):(j.addzs l).g.z k=match l.find? (fun p=>ZJ p.1 k)with|some p=>ZA p.2|none=>j.g.z k:=by cases l<;>rfl
def qN{j:J}{k:Nat}{o:Obj}(h:(j.addzs l).g.z k=ZA o):(k,o)∈l\/((∀p∈l,p.1≠k)/\j.g.z k=ZA o):=by
 rw[zB]at h;split at h
 next p hp=>cases h;have h1:=List.mem_of_find?_eq_some hp;have h2:p.1=k:=Ak (by simpa using List.find?_some hp);rw[<-h2];exact .inl h1
 next hn=>refine .inr ⟨fun p hp e=> ?_,h⟩;have:=List.find?_eq_none.1 hn p hp;rw[e]at this;simp at this
def iV{j:J}{k:Nat}(h:∀p∈l,p.1≠k):(j.addzs l).g.z k=j.g.z k:=by
 rw[zB];split
 next p hp=>exact absurd (Ak (n:=p.1) (m:=k) (by simpa using List.find?_some hp)) (h p (List.mem_of_find?_eq_some hp))
 .rfl
def ai1{j:J}(hf:∀p∈l,∀q∈l,p.1=q.1->p.2=q.2){p:Nat×Obj}(hp:p∈l):(j.addzs l).g.z p.1=ZA p.2:=by
 rw[zB];split
 next q hq=>rw[hf q (List.mem_of_find?_eq_some hq) p hp (Ak (n:=q.1) (m:=p.1) (by simpa using List.find?_some hq))]
 next hn=>have:=List.find?_eq_none.1 hn p hp;simp at this
def J.putL(j:J)(nid:Nat)(l:List SV):J:={j with s:=fun b=>if nid<=b then(match l[b-nid]? with|some u=>ZA u|none=>j.s b)else j.s b}
def N9(U:Env)(base nid:Nat)(eff:Eff)(j:J)(w:World)(j':J)(w':World):Prop:=
 match eff.al with
 |some (cs,ty)=>∃vs,Af U j cs=ZA vs/\w'=w.alloc (.cells vs.toArray ty)/\j'={j with b:=fun b=>if b=nid then ZA w.heap.size else j.b b}
 |none=>match eff.re with
   |.none=>j'=j/\∃w1,Ext w w1/\sD U j eff.wr w1 w'
   |.set id r=>j'=j/\∃s,j.s id=ZA s/\w.grownBy w' s.v.ownBlock/\RowOk U base w' s r/\r.kd≠.tab
   | .mk rs=>Ext w w'/\∃svs:List SV,svs.length=rs.length/\(∀(i:Nat) u r,svs[i]? =ZA u->rs[i]? =ZA r->RowOk U w.heap.size w' u r/\r.own=ZB/\(r.kd=.tab->∀jj,TbAt U jj w' u r))/\
    (∀(i i':Nat) u u' k,svs[i]? =ZA u->svs[i']? =ZA u'->u.v.ownBlock=ZA k->u'.v.ownBlock=ZA k->i=i')/\(∀u∈svs,NewZ w w' svs u)/\j'=(j.putL nid svs).addzs (svs.flatMap (·.z))
   |.app old r=>∃s s',j.s old=ZA s/\w.grownBy w' s.v.ownBlock/\RowOk U base w' s' r/\(s'.v.ownBlock=s.v.ownBlock\/s'.v.ownBlock=ZA w.heap.size)/\Zin j s'/\j'=j.putS nid s'/\r.kd≠.tab
   |.view old q r=>w'=w/\∃s s',j.s old=ZA s/\RowOk U base w s q/\RowOk U base w s' r/\(∀k,s'.blk ZC=ZA k->s.blk ZC=ZA k)/\Zin j s'/\j'=j.putS nid s'/\q.kd≠.tab/\r.kd≠.tab
   |.peek r=>w'=w/\∃s',RowOk U base w s' r/\(∀k,s'.blk ZC=ZA k->∃o,j.g.z k=ZA o/\Cg o=ZB)/\s'.z=[]/\j'=j.putS nid s'/\r.kd≠.tab
   |.frz old q r=>Ext w w'/\∃s s',j.s old=ZA s/\RowOk U base w s q/\RowOk U base w' s' r/\(∀k,s'.v.ownBlock=ZA k->w.heap.size<=k)/\s'.z.length<=1/\(∀p∈s'.z,w.heap[p.1]? =ZA p.2/\Cg p.2=ZB/\s.v.ownBlock=ZA p.1)/\j'=(j.putS nid s').addz s'.z/\q.kd≠.tab/\r.kd≠.tab
   |.tset old q tab r=>∃s st k o,j.s old=ZA s/\j.s tab=ZA st/\RowOk U base w s q/\RowOk U base w' st r/\s.v.ownBlock=ZA k/\w.heap[k]? =ZA o/\Cg o=ZB/\w.grownBy w' st.v.ownBlock/\j'=j.addz [(k,o)]/\TbAt U j' w' st r/\q.kd≠.tab
def OpOk(P:Program)(hw:World->Prop)(U:Env)(base:Nat)(vw:Vw)(o:Oper)(eff:Eff):Prop:=
 ∀(j:J) (a:Act) (w:World),base<=w.heap.size->(∀x∈o.op.operands.toList,∀v,vw.ev x=ZA v->v.den U j=ZA (a.eval x))->FI U j w vw.ld eff.rd->ME j w eff.wr->RrOk U base j w vw.rw eff.rr->NQ hw U j w vw.fb->
  ∀(K:Act->World->Prop) (Q:Exit->Act->World->Prop),(∀v j' w',eff.val.den U j'=ZA v->N9 U base vw.nid eff j w j' w'->K (a.put o.dst v) w')->o.wp P a w K Q
def dT{P:Program}{o:Oper}{a:Act}{v:Value}{K:Act->World->Prop}{Q:Exit->Act->World->Prop}(h:(execOp a.eval o).run P w=.ok (.value v) w')(hk:K (a.put o.dst v) w'):o.wp P a w K Q:=by unfold Oper.wp;rw[h];exact hk
def uL{P:Program}{o:Oper}{a:Act}{K:Act->World->Prop}{Q:Exit->Act->World->Prop}(h:(execOp a.eval o).run P w=.ok .skip w')(hk:K (a.put o.dst undef) w'):o.wp P a w K Q:=by unfold Oper.wp;rw[h];exact hk
section
variable {P:Program}{U:Env}{base:Nat}{vw:Vw}{ld:Nat->Nat->Option C}{o:Oper}
def OpOk.pure{hw:World->Prop}{v:V}{rd:List (Nat×Nat)}{rr:List Nat} (h:∀(j:J) (a:Act) (w:World),base<=w.heap.size->(∀x∈o.op.operands.toList,∀v,vw.ev x=ZA v->v.den U j=ZA (a.eval x))->FI U j w vw.ld rd->RrOk U base j w vw.rw rr->NQ hw U j w vw.fb->
  ∃u,v.den U j=ZA u/\(execOp a.eval o).run P w=.ok (.value u) w):OpOk P hw U base vw o {val:=v,rd:=rd,rr:=rr}:=by
 intro j a w hb Av By _ BS Ev K Q hK;obtain⟨u,hu,hr⟩:=h j a w hb Av By BS Ev;exact dT hr (hK u j w hu ⟨rfl,w,Ext.refl w,rfl⟩)
def eh{j:J}{b k:Nat}(hj:j.b b=ZA k):∀(n o:Nat) (cs:List C),jR ld b o n=ZA cs->∀(w:World),FI U j w ld (dW b o n)->∀(a:Addr) (i:Nat) (Lx:Array Value),(∀m,a.add (i+m)=⟨k,o+m,ZE⟩)->
  ∃vs,Af U j cs=ZA vs/\(loadCellsFrom a i n Lx).run P w=.ok (Lx++vs.toArray) w
 |0,o,cs,h,w,By,a,i,Lx,ha=>by cases h;exact⟨[],rfl,by simp[loadCellsFrom]⟩
 |n+1,o,cs,h,w,By,a,i,Lx,ha=>by
   simp only[jR]at h;cases hc:ld b o with
   |none=>rw[hc]at h;cases h
   |some c=>
     cases hl:jR ld b (o+1) n with
     |none=>rw[hc,hl]at h;cases h
     |some l=>rw[hc,hl]at h;cases h;obtain⟨k',v,B2,hv,BB⟩:=By (b,o) (by simp[dW]) c hc;simp only at B2 BB;rw[hj]at B2;cases B2;obtain⟨vs,h1,h2⟩:=eh hj n (o+1) l hl w (fun p hp=>By p (by simp[dW];exact .inr hp)) a (i+1) (Lx.push v) (fun m=>by rw[YW,Nat.add_comm 1 m,<-YW,YW,ha (m+1)];congr 1;omega);refine⟨v::vs,by simp[Af,hv,h1],?_⟩;have Ll:=ha 0;simp only[ZS]at Ll;simp only[loadCellsFrom,Ll,ZI,load,Sem.run,BB,Result.andThen_ok,h2];simp
def agU{cx:Cx}(hT:∀t i,(t,i)∈cx.ty->TIok P t i){cs:List C}{v:V}(h:Qa cx ft cs off=ZA v){j:J}(EN:Af U j cs=ZA vs)(w:World):
  ∃u,v.den U j=ZA u/\(part ft vs.toArray off).run P w=.ok u w:=by
 unfold Qa at h;split at h
 .rename_i i hi;have ht:=hT _ _ (ab hi);split at h
  .rename_i Bu;split at h
   .rename_i A0;cases h;have h1:=mN (kl EN off) i.size;refine⟨.agg ((vs.drop off).take i.size).toArray,by simp only[V.den,h1,YU],?_⟩;have h2:vs.toArray.extract off (off+i.size)=((vs.drop off).take i.size).toArray:=by
     simp[List.extract_eq_take_drop]
    simp only[part,ZI,ht.agg,Bu,Result.andThen_ok,if_true,ht.size,h2,Sem.run_pure]
   .exact Xo
  next Bu=>rw[Ay]at h;obtain⟨c,hc,rfl⟩:=h;obtain⟨u,hu,hd⟩:=dH EN off c hc;refine⟨u,hd,?_⟩;have h3:vs.toArray[off]? =ZA u:=X2;simp only[part,ZI,ht.agg,Bu,Result.andThen_ok,h3];simp
 .exact Xo
end
section
variable {P:Program}{sp:Spec}{U:Env}{G:Env->E->Prop}{I:Nat->List Dt->Prop}{base:Nat}{cx:Cx}{vw:Vw}{o:Oper}{k:Eff->Kw->Tr}
def Sound(P:Program)(sp:Spec)(U:Env)(G:Env->E->Prop)(I:Nat->List Dt->Prop)(base:Nat)(cx:Cx)(vw:Vw)(o:Oper)(k:Eff->Kw->Tr)(kw:Kw):Prop:=∃eff An,(k eff An).holds sp G U I/\Good sp cx.sm U An/\KwGe An kw/\OpOk P sp.hw U base vw o eff
def Sound.lv{kw An:Kw}(h:Sound P sp U G I base cx vw o k An)(hl:KwGe An kw):Sound P sp U G I base cx vw o k kw:=by obtain⟨eff,Ch,h1,h2,h3,h4⟩:=h;exact⟨eff,Ch,h1,h2,h3.trans hl,h4⟩
def aan{kw:Kw}(Ad:o.op=.move x\/o.op=.assign x){v:V}(hv:vw.ev x=ZA v)(h:(k {val:=v} kw).holds sp G U I)(hg:Good sp cx.sm U kw):Sound P sp U G I base cx vw o k kw:=by
 refine⟨_,kw,h,hg,.refl _,OpOk.pure fun j a w _ Av _ _ _=>⟨a.eval x,?_,?_⟩⟩
 .rcases Ad with Ad|Ad<;>exact Av x Or v hv
 .rcases Ad with Ad|Ad<;>simp[execOp,Ad]
def afc(hT:∀t i,(t,i)∈cx.ty->TIok P t i){kw:Kw}(Ad:o.op=.alloc t){i:TI}(hi:am t cx.ty=ZA i)(h:(k {val:=.one (.ptr vw.nid 0),al:=ZA (i.zero,t)} kw).holds sp G U I)(hg:Good sp cx.sm U kw):
  Sound P sp U G I base cx vw o k kw:=by
 refine⟨_,kw,h,hg,.refl _,fun j a w _ Av By Cb _ _ K Q hK=> ?_⟩;obtain⟨z,hz,hd⟩:=(hT _ _ (ab hi)).zero;refine dT (w':=w.alloc (.cells z.cells t)) (v:=.pointer (ZA ⟨w.heap.size,0,ZE⟩)) ?_ (hK _ {j with b:=fun b=>if b=vw.nid then ZA w.heap.size else j.b b} _ ?_ ?_)
 .exact XJ
 .simp[V.den,C.den]
 .exact⟨z.cells.toList,hd U j,by simp,rfl⟩
def aoV{kw:Kw}(Ad:o.op=.box t x){v:V}(hv:vw.ev x=ZA v)(hf:v.flat=ZB)(h:(k {val:=.one (.ptr vw.nid 0),al:=ZA (v.cells,t)} kw).holds sp G U I)(hg:Good sp cx.sm U kw):
  Sound P sp U G I base cx vw o k kw:=by
 refine⟨_,kw,h,hg,.refl _,fun j a w _ Av By Cb _ _ K Q hK=> ?_⟩;have hd:=V.cells_ok (Av x Or v hv) hf;refine dT (w':=w.alloc (.cells (a.eval x).cells t)) (v:=.pointer (ZA ⟨w.heap.size,0,ZE⟩)) ?_ (hK _ {j with b:=fun b=>if b=vw.nid then ZA w.heap.size else j.b b} _ ?_ ?_)
 .simp[execOp,Ad,Instr.box,ZI,newVar,newRow,newObj,Sem.run]
 .simp[V.den,C.den]
 .exact⟨_,hd,by simp,rfl⟩
def mz{j:J}{v:Value}(h:(V.one (.ptr b off)).den U j=ZA v):∃kk,j.b b=ZA kk/\v=.pointer (ZA ⟨kk,off,ZE⟩):=by simp only[V.den,C.den,Ay]at h;obtain⟨kk,hk,rfl⟩:=h;exact⟨kk,hk,rfl⟩
def bo(kk off m:Nat):(⟨kk,off,ZE⟩:Addr).add m=⟨kk,off+m,ZE⟩:=by
 unfold Addr.add;split
 next h=>subst h;rfl
 .rfl
def vo(hT:∀t i,(t,i)∈cx.ty->TIok P t i){kw:Kw}(Ad:o.op=.load t x)(hx:vw.ev x=ZA (.one (.ptr b off))){i:TI}(hi:am t cx.ty=ZA i)(Bu:i.agg=ZB){cs:List C}(CT:jR vw.ld b off i.size=ZA cs)(h:(k {val:=.agg cs,rd:=dW b off i.size} kw).holds sp G U I)(hg:Good sp cx.sm U kw):Sound P sp U G I base cx vw o k kw:=by
 refine⟨_,kw,h,hg,.refl _,OpOk.pure fun j a w _ Av By _ _=> ?_⟩;have ht:=hT _ _ (ab hi);obtain⟨kk,hk,he⟩:=mz (Av x Or _ hx);obtain⟨vs,h1,h2⟩:=eh (P:=P) hk i.size off cs CT w By ⟨kk,off,ZE⟩ 0 #[] (fun m=>by rw[bo];simp);refine⟨.agg vs.toArray,by simp only[V.den,h1,YU],?_⟩;simp[execOp,Ad,he,Instr.loadAt,Instr.sureAddr,ZI,loadVar,ht.agg,Bu,ht.size,loadCells,h2]
def vp(hT:∀t i,(t,i)∈cx.ty->TIok P t i){kw:Kw}(Ad:o.op=.load t x)(hx:vw.ev x=ZA (.one (.ptr b off))){i:TI}(hi:am t cx.ty=ZA i)(Bu:¬i.agg=ZB){c:C}(hc:vw.ld b off=ZA c)(h:(k {val:=.one c,rd:=[(b,off)]} kw).holds sp G U I)(hg:Good sp cx.sm U kw):Sound P sp U G I base cx vw o k kw:=by
 refine⟨_,kw,h,hg,.refl _,OpOk.pure fun j a w _ Av By _ _=> ?_⟩;have ht:=hT _ _ (ab hi);obtain⟨kk,hk,he⟩:=mz (Av x Or _ hx);obtain⟨k',v,B2,hv,BB⟩:=By (b,off) (by simp) c hc;simp only at B2 BB;rw[hk]at B2;cases B2;have DF:i.agg=ZC:=YC;refine⟨v,hv,?_⟩;simp[execOp,Ad,he,Instr.loadAt,Instr.sureAddr,ZI,loadVar,ht.agg,DF,load,Sem.run,BB]
def dC{j:J}{b kk:Nat}(hj:j.b b=ZA kk)(a:Addr):∀(cs:List C) (off i:Nat) (vs:List Value) (w:World),(∀m,a.add (i+m)=⟨kk,off+m,ZE⟩)->Af U j cs=ZA vs->cs.all C.solid=ZB->ME j w (eG b off cs)->
  ∃w',sD U j (eG b off cs) w w'/\(storeCells a vs i).run P w=.ok () w'
 |[],off,i,vs,w,ha,hd,hs,hw=>by cases hd;exact⟨w,rfl,by simp[storeCells]⟩
 |c::cs,off,i,vs,w,ha,hd,hs,hw=>by
   simp only[Af]at hd;cases hc:c.den U j with
   |none=>rw[hc]at hd;cases hd
   |some v=>
     cases hl:Af U j cs with
     |none=>rw[hc,hl]at hd;cases hd
     |some l=>
       rw[hc,hl]at hd;cases hd;simp only[ZY,ne]at hs;obtain⟨k',u,B2,hu,J8⟩:=hw (b,off,c) (by simp[eG]);simp only at B2 hu J8;rw[hj]at B2;cases B2;have PF:ME j (w.setCell ⟨kk,off,ZE⟩ v) (eG b (off+1) cs):=by
        intro p hp;obtain⟨k2,u2,D1,SP,hf2⟩:=hw p (by simp[eG];exact .inr hp);by_cases he:(⟨k2,p.2.1,ZE⟩:Addr)=⟨kk,off,ZE⟩
        .refine⟨k2,v,D1,?_,?_⟩
         .rw[he];exact World.cell?_setCell_same _ _ _ (by rw[<-he];exact SP)
         .rw[World.frozen?_setCell];exact hf2
        .refine⟨k2,u2,D1,?_,?_⟩
         .rw[World.cell?_setCell_other _ _ _ _ (fun e=>he e.symm)];exact SP
         .rw[World.frozen?_setCell];exact hf2
       obtain⟨w',h1,h2⟩:=dC hj a cs (off+1) (i+1) l (w.setCell ⟨kk,off,ZE⟩ v) (fun m=>by rw[YW,Nat.add_comm 1 m,ha (m+1)];congr 1;omega) hl hs.2 PF;refine⟨w',⟨kk,v,hj,hc,h1⟩,?_⟩;have Ll:=ha 0;simp only[ZS]at Ll;simp only[storeCells,Ll,ZI,run_store P w _ v _ (C.solid_ok hc hs.1),hu,J8,Result.andThen_ok,Bool.false_eq_true,if_false];exact h2
def aeY(hT:∀t i,(t,i)∈cx.ty->TIok P t i){kw:Kw}(Ad:o.op=.store t x y)(hx:vw.ev x=ZA (.one (.ptr b off))){v:V}(hy:vw.ev y=ZA v){i:TI}(hi:am t cx.ty=ZA i)(hf:v.flat=ZB)(hn:ZJ v.cells.length i.size=ZB)(hs:v.cells.all C.solid=ZB)(h:(k {val:=.one .undef,wr:=eG b off v.cells} kw).holds sp G U I)(hg:Good sp cx.sm U kw):Sound P sp U G I base cx vw o k kw:=by
 refine⟨_,kw,h,hg,.refl _,fun j a w _ Av By Cb _ _ K Q hK=> ?_⟩;have ht:=hT _ _ (ab hi);obtain⟨kk,hk,he⟩:=mz (Av x Or _ hx);have hd:=V.cells_ok (Av y Or v hy) hf;obtain⟨w',h1,h2⟩:=dC (P:=P) hk ⟨kk,off,ZE⟩ v.cells off 0 _ w (fun m=>by rw[bo];simp) hd hs Cb;have BT:(a.eval y).cells.size=i.size:=by have:=aR hd;rw[Array.length_toList,Ak hn]at this;exact this
 refine uL (w':=w') ?_ (hK _ j w' rfl ⟨rfl,w,Ext.refl w,h1⟩);simp[execOp,Ad,he,Instr.storeAt,Instr.sureAddr,ZI,storeVar,ht.size,BT,h2]
def agP{j:J}{c:C}{v:Value}(hc:(∃b off,c=.ptr b off)\/(∃b off,c=.fp b off)\/(∃id BC e off,c=.ep id BC e off))(h:(V.one c).den U j=ZA v):∃a,v=.pointer (ZA a):=by
 rcases hc with⟨b,off,rfl⟩|⟨b,off,rfl⟩|⟨id,BC,e,off,rfl⟩
 .simp only[V.den,C.den,Ay]at h;obtain⟨kk,_,rfl⟩:=h;exact⟨_,rfl⟩
 .simp only[V.den,C.den,Ay]at h;obtain⟨kk,_,rfl⟩:=h;exact⟨_,rfl⟩
 .simp only[V.den,C.den,cY,SV.elem,Ay]at h;obtain⟨s,_,a,_,rfl⟩:=h;exact⟨_,rfl⟩
def gI{kw:Kw}(Ad:o.op=.nilCheck x){c:C}(hx:vw.ev x=ZA (.one c))(hc:((∃b off,c=.ptr b off)\/(∃b off,c=.fp b off)\/(∃id BC e off,c=.ep id BC e off))\/∃g,c=.fn g)(h:(k {val:=.one c} kw).holds sp G U I)(hg:Good sp cx.sm U kw):Sound P sp U G I base cx vw o k kw:=by
 refine⟨_,kw,h,hg,.refl _,OpOk.pure fun j a w _ Av _ _ _=>⟨a.eval x,Av x Or _ hx,?_⟩⟩;have hd:=Av x Or _ hx;rcases hc with hc|⟨g,rfl⟩
 .obtain⟨a',he⟩:=agP hc hd;simp[execOp,Ad,he]
 .have he:a.eval x=.func (.func g) #[] #[]:=by
   exact(ZN hd).symm
  simp[execOp,Ad,he]
def tj{kw:Kw}(Ad:o.op=.nilCheck x){fs ps:List (Option (Bool×Nat×Nat))}(hx:vw.ev x=ZA (.one (.clo g fs ps)))(h:(k {val:=.one (.clo g fs ps)} kw).holds sp G U I)(hg:Good sp cx.sm U kw):Sound P sp U G I base cx vw o k kw:=by refine⟨_,kw,h,hg,.refl _,OpOk.pure fun j a w _ Av _ _ _=>⟨a.eval x,Av x Or _ hx,?_⟩⟩;have hd:=Av x Or _ hx;obtain⟨y,z,_,_,he⟩:=gu (show FC g (eZ j fs) (eZ j ps)=ZA (a.eval x)from hd);simp[execOp,Ad,he]
def zv{ev:Operand->Option V}{j:J}{a:Act}:∀{l:List Operand} {cs:List (Option (Bool×Nat×Nat))},HK ev l=ZA cs->(∀x∈l,∀v,ev x=ZA v->v.den U j=ZA (a.eval x))->eZ j cs=ZA (l.map a.eval)
 |[],cs,h,_=>by cases h;rfl
 |x::l,cs,h,Av=>by
   have tail:=fun {ds} (hd:HK ev l=ZA ds)=>zv (j:=j) (a:=a) hd (fun y hy=>Av y (cM _ hy));simp only[HK]at h;split at h
   next b o ds hx hl=>cases h;have h1:=Av x bR _ hx;simp only[V.den,C.den]at h1;simp only[eZ,Eg,List.map_cons,h1,tail hl]
   next b o ds hx hl=>cases h;have h1:=Av x bR _ hx;simp only[V.den,C.den]at h1;simp only[eZ,Eg,List.map_cons,h1,tail hl]
   next ds hx hl=>cases h;have h1:=Av x bR _ hx;simp only[V.den,C.den]at h1;simp only[eZ,Eg,List.map_cons,h1,tail hl]
   .exact Xo
def vn{fs ps:Array Operand}{kw:Kw}(Ad:o.op=.makeFunc (.func g) fs ps){x y:List (Option (Bool×Nat×Nat))}(hx:HK vw.ev fs.toList=ZA x)(hy:HK vw.ev ps.toList=ZA y)(h:(k {val:=.one (.clo g x y)} kw).holds sp G U I)(hg:Good sp cx.sm U kw):Sound P sp U G I base cx vw o k kw:=by
 refine⟨_,kw,h,hg,.refl _,OpOk.pure fun j a w _ Av _ _ _=> ?_⟩;have h1:=zv (U:=U) (j:=j) (a:=a) hx (fun z hz=>Av z (by simp[Ad,Op.operands];exact .inl (by simpa using hz)));have h2:=zv (U:=U) (j:=j) (a:=a) hy (fun z hz=>Av z (by simp[Ad,Op.operands];exact .inr (by simpa using hz)));refine⟨.func (.func g) (fs.map a.eval) (ps.map a.eval),?_,?_⟩
 .simp only[V.den,C.den,h1,h2,FC];have e:∀(q:Array Operand),(q.toList.map a.eval).toArray=q.map a.eval:=fun q=>by rw[<-Array.toList_map,Array.toArray_toList]
  rw[e,e]
 .simp[execOp,Ad,Instr.makeFunc,ZI]
def dh{j:J}{e:E}{v:Value}(h:(V.one (.int kd e)).den U j=ZA v):v=.int kd (e.I U):=by exact(ZN h).symm
def kE{j:J}{e:E}{v:Value}(h:(V.one (.bool e)).den U j=ZA v):v=.bool (e.B U):=by exact(ZN h).symm
def aeX{op:UnOp}{kw:Kw}(Ad:o.op=.unOp op t x){v:V}(hv:vw.ev x=ZA v)
  (h:(match(generalizing:=false) op,v with
   |.not,.one (.bool e)=>k {val:=.one (.bool (ew e))} kw
   |.neg,.one (.int kd e)=>k {val:=.one (.int kd (jX .sub kd (.p 0) e))} kw
   |.xor,.one (.int kd e)=>k {val:=.one (.int kd (jX .xor kd (.p (if kd.signed then -1 else kd.max)) e))} kw
   |_,_=>.stuck 10).holds sp G U I) (hg:Good sp cx.sm U kw):Sound P sp U G I base cx vw o k kw:=by
 split at h
 next e=>refine⟨_,kw,h,hg,.refl _,OpOk.pure fun j a w _ Av _ _ _=>⟨.bool (!e.B U),by simp[V.den,C.den,di],?_⟩⟩;rw[show execOp a.eval o=_ from by simp only[execOp,Ad];rfl];simp[kE (Av x Or _ hv),Op.unary,ZI]
 next kd e=>refine⟨_,kw,h,hg,.refl _,OpOk.pure fun j a w _ Av _ _ _=>⟨.int kd (kd.wrap (0-e.I U)),by simp[V.den,C.den,ud,Ac,E.I],?_⟩⟩;simp[execOp,Ad,dh (Av x Or _ hv),Op.unary,Op.intArith,ZI]
 next kd e=>refine⟨_,kw,h,hg,.refl _,OpOk.pure fun j a w _ Av _ _ _=>⟨.int kd (bits .xor kd (if kd.signed then -1 else kd.max) (e.I U)),by simp[V.den,C.den,ud,Ac,E.I],?_⟩⟩;simp[execOp,Ad,dh (Av x Or _ hv),Op.unary,intBits_xor,ZI]
 .exact Xo
def ph(h:Ae kd z=ZB):kd.wrap z=z:=by rw[bA]at h;cases kd<;>simp only[IntKind.min,IntKind.max,IntKind.wrap,ZX,YV]at * <;>simp at * <;>(try split)<;>omega
def aj0(hT:∀t i,(t,i)∈cx.ty->TIok P t i){d:Nat}{kw:Kw}(Ad:o.op=.convert s d x){k0:IntKind}{e:E}(hx:vw.ev x=ZA (.one (.int k0 e))){i is:TI}(hi:am d cx.ty=ZA i)(Xa:am s cx.ty=ZA is)(hk:i.ik=ZA kd)(h:(k {val:=.one (.int kd (if e.rng kw.vk kd then e else T8 kd e))} kw).holds sp G U I)(hg:Good sp cx.sm U kw):Sound P sp U G I base cx vw o k kw:=by
 have hd:=(hT _ _ (ab hi)).ik kd hk;obtain⟨ds,hs⟩:=(hT _ _ (ab Xa)).und;refine⟨_,kw,h,hg,.refl _,OpOk.pure fun j a w _ Av _ _ _=>⟨.int kd (kd.wrap (e.I U)),?_,?_⟩⟩
 .split
  next hr=>simp[V.den,C.den,ph (E.rng_ok hg.vk e hr)]
  .simp[V.den,C.den,akB]
 .simp[execOp,Ad,dh (Av x Or _ hx),convert,run_underlying hs,run_underlying hd,Conv.intToInt,ZI]
def fF(hT:∀t i,(t,i)∈cx.ty->TIok P t i){f:Nat}{kw:Kw}(Ad:o.op=.fieldAddr s x f){c c':C}(hx:vw.ev x=ZA (.one c)){i:TI}(hi:am s cx.ty=ZA i)(hf:i.fields[f]? =ZA (fo,ft))(hm:∀j v,c.den U j=ZA v->∃a,v=.pointer (ZA a)/\c'.den U j=ZA (.pointer (ZA (a.add fo))))(h:(k {val:=.one c'} kw).holds sp G U I)(hg:Good sp cx.sm U kw):Sound P sp U G I base cx vw o k kw:=by
 have ht:=hT _ _ (ab hi);refine⟨_,kw,h,hg,.refl _,OpOk.pure fun j a w _ Av _ _ _=> ?_⟩;obtain⟨p,he,hd⟩:=hm j _ (Av x Or _ hx);refine⟨_,hd,?_⟩;simp[execOp,Ad,he,ht.fieldAt f fo ft hf,ZI]
def bU(a:Addr)(m n:Nat):(a.add m).add n=a.add (m+n):=by
 unfold Addr.add;by_cases hm:m=0
 .subst hm;simp
 .by_cases hn:n=0
  .subst hn;simp
  .simp[hm,hn,YW]
def wL{j:J}{v:Value}(h:(C.ptr b off).den U j=ZA v):∃a,v=.pointer (ZA a)/\(C.ptr b (off+fo)).den U j=ZA (.pointer (ZA (a.add fo))):=by simp only[C.den,Ay]at h;obtain⟨kk,hk,rfl⟩:=h;exact⟨_,rfl,by simp[C.den,hk,bo]⟩
def abv{j:J}{v:Value}(h:(C.fp b off).den U j=ZA v):∃a,v=.pointer (ZA a)/\(C.fp b (off+fo)).den U j=ZA (.pointer (ZA (a.add fo))):=by simp only[C.den,Ay]at h;obtain⟨kk,hk,rfl⟩:=h;exact⟨_,rfl,by simp[C.den,hk,bo]⟩
def abw{j:J}{id:Nat}{e:E}{v:Value}(h:(C.ep id BC e off).den U j=ZA v):∃a,v=.pointer (ZA a)/\(C.ep id BC e (off+fo)).den U j=ZA (.pointer (ZA (a.add fo))):=by simp only[C.den,cY,SV.elem,Ay]at h;obtain⟨s,hs,a,ha,rfl⟩:=h;exact⟨_,rfl,by simp[C.den,hs,SV.elem,ha,bU,YW]⟩
def ae4(hT:∀t i,(t,i)∈cx.ty->TIok P t i){f:Nat}{kw:Kw}(Ad:o.op=.field s x f){cs:List C}(hx:vw.ev x=ZA (.agg cs)){i:TI}(hi:am s cx.ty=ZA i)(hf:i.fields[f]? =ZA (fo,ft)){v:V}(hp:Qa cx ft cs fo=ZA v)(h:(k {val:=v} kw).holds sp G U I)(hg:Good sp cx.sm U kw):Sound P sp U G I base cx vw o k kw:=by
 have ht:=hT _ _ (ab hi);refine⟨_,kw,h,hg,.refl _,OpOk.pure fun j a w _ Av _ _ _=> ?_⟩;have hd:=Av x Or _ hx;simp only[V.den,Ay]at hd;obtain⟨vs,EN,he⟩:=hd;obtain⟨u,hu,hr⟩:=agU hT hp EN w;refine⟨u,hu,?_⟩;simp[execOp,Ad,<-he,ht.field f fo ft hf,hr,ZI]
def pt{n:Nat}{kw:Kw}(Ad:o.op=.extract x n){vs:List (Bool×List C)}(hx:vw.ev x=ZA (.tup vs)){p:Bool×List C}(hp:vs[n]? =ZA p){v:V}(hv:(∃cs,p=(ZB,cs)/\v=.agg cs)\/∃c,p=(ZC,[c])/\v=.one c)(h:(k {val:=v} kw).holds sp G U I)(hg:Good sp cx.sm U kw):Sound P sp U G I base cx vw o k kw:=by
 refine⟨_,kw,h,hg,.refl _,OpOk.pure fun j a w _ Av _ _ _=> ?_⟩;have hd:=Av x Or _ hx;simp only[V.den,Ay]at hd;obtain⟨us,LK,he⟩:=hd;obtain⟨u,hu,hr⟩:=xq LK n p hp;refine⟨u,?_,?_⟩
 .rcases hv with⟨cs,rfl,rfl⟩|⟨c,rfl,rfl⟩<;>exact hr
 .simp[execOp,Ad,<-he,Instr.extract,hu,ZI]
def jg{ev:Operand->Option V}{j:J}{a:Act}:∀{l:List Operand} {vs:List V},Ey ev l=ZA vs->(∀x∈l,∀v,ev x=ZA v->v.den U j=ZA (a.eval x))->(∀(i:Nat) x u,vs[i]? =ZA x->(l.map a.eval)[i]? =ZA u->x.den U j=ZA u)/\(l.map a.eval).length=vs.length
 |[],vs,h,Av=>by cases h;exact⟨fun i x u hx=>by simp at hx,rfl⟩
 |x::l,vs,h,Av=>by
   simp only[Ey]at h;cases hc:ev x with
   |none=>rw[hc]at h;cases h
   |some v=>
     cases hl:Ey ev l with
     |none=>rw[hc,hl]at h;cases h
     |some us=>
       rw[hc,hl]at h;cases h;obtain⟨h1,h2⟩:=jg hl (fun y hy=>Av y (cM _ hy));refine⟨fun i y u hy hu=> ?_,by simp[h2]⟩;cases i with
       |zero=>simp at hy hu;subst hy hu;exact Av x bR v hc
       |succ i=>exact h1 i y u YB X2
end
section
variable {P:Program}{sp:Spec}{U:Env}{G:Env->E->Prop}{I:Nat->List Dt->Prop}{base:Nat}{cx:Cx}{vw:Vw}{o:Oper}{k:Eff->Kw->Tr}
def ae2{kw:Kw}(Ad:o.op=.binOp op xt x y yt){a b:E}(hx:vw.ev x=ZA (.one (.int k1 a)))(hy:vw.ev y=ZA (.one (.int k2 b))){v:V}{u:Value}(hv:∀j,v.den U j=ZA u)(hr:∀w,(binOp op xt (.int k1 (a.I U)) (.int k2 (b.I U))).run P w=.ok u w)(h:(k {val:=v} kw).holds sp G U I)(hg:Good sp cx.sm U kw):Sound P sp U G I base cx vw o k kw:=by
 refine⟨_,kw,h,hg,.refl _,OpOk.pure fun j ac w _ Av _ _ _=>⟨u,hv j,?_⟩⟩;have h1:=dh (Av x Or _ hx);have h2:=dh (Av y Or _ hy);have h3:=hr w;simp[execOp,Ad,h1,h2,eqGuard_at_int,h3,ZI]
def vv{kw:Kw}(Ad:o.op=.binOp op xt x y yt){a b:E}(hx:vw.ev x=ZA (.one (.bool a)))(hy:vw.ev y=ZA (.one (.bool b))){v:V}{u:Value}(hv:∀j,v.den U j=ZA u)(hr:∀w,(binOp op xt (.bool (a.B U)) (.bool (b.B U))).run P w=.ok u w)(h:(k {val:=v} kw).holds sp G U I)(hg:Good sp cx.sm U kw):Sound P sp U G I base cx vw o k kw:=by
 refine⟨_,kw,h,hg,.refl _,OpOk.pure fun j ac w _ Av _ _ _=>⟨u,hv j,?_⟩⟩;have h1:=kE (Av x Or _ hx);have h2:=kE (Av y Or _ hy);have h3:=hr w;simp[execOp,Ad,h1,h2,eqGuard_at_bool,h3,ZI]
def aao(hT:∀t i,(t,i)∈cx.ty->TIok P t i)(BM:op=.eql\/op=.neq){kw:Kw}(Ad:o.op=.binOp op xt x y yt){cs ds:List C}(hx:vw.ev x=ZA (.agg cs))(hy:vw.ev y=ZA (.agg ds)){i:TI}(hi:am xt cx.ty=ZA i)(hq:i.eqok=ZB)(EW:fy cs i.zero=ZB/\cs.all (C.rng kw.vk)=ZB)(D1:fy ds i.zero=ZB/\ds.all (C.rng kw.vk)=ZB){e:E}(he:uv (arv cx) cs ds=ZA e)(h:(k {val:=.one (.bool (if op=.eql then e else ew e))} kw).holds sp G U I)(hg:Good sp cx.sm U kw):Sound P sp U G I base cx vw o k kw:=by
 have ht:=hT _ _ (ab hi);refine⟨_,kw,h,hg,.refl _,OpOk.pure fun j ac w _ Av _ _ _=>⟨.bool (if op=.eql then e.B U else !e.B U),?_,?_⟩⟩
 .rcases BM with rfl|rfl<;>simp[V.den,C.den,di]
 .obtain⟨vs,us,h1,h2,h3,h4⟩:=adb (U:=U) (j:=j) he;have KG:=Av x Or _ hx;have MT:=Av y Or _ hy;simp only[V.den,h1,h2,YU,bv]at KG MT;have h5:=ht.eq hq vs us (mF hg.vk EW.1 EW.2 h1) (mF hg.vk D1.1 D1.2 h2) w;have h6:(eqGuard op xt x y (.agg vs.toArray) (.agg us.toArray)).run P w=.ok () w:=by
   rcases BM with rfl|rfl<;>simp[eqGuard,program,ZI,Sem.run,ht.grd hq]
  rcases BM with rfl|rfl<;>simp[execOp,Ad,<-KG,<-MT,h6,binOp,h5,h4,ZI]
def tv(BM:op=.eql\/op=.neq){kw:Kw}(Ad:o.op=.binOp op xt x y yt){c d:C}(hx:vw.ev x=ZA (.one c))(hy:vw.ev y=ZA (.one d)){X Y:Value}(hX:∀j,c.den U j=ZA X)(hY:∀j,d.den U j=ZA Y)(hXY:(∃f,X=.func f #[] #[])\/X=.nilFunc)(hYn:Y=.nilFunc){r:Bool}(he:∀w,(Op.equal xt X Y).run P w=.ok r w)(h:(k {val:=.one (.bool (.tt (if op=.eql then r else !r)))} kw).holds sp G U I)(hg:Good sp cx.sm U kw):Sound P sp U G I base cx vw o k kw:=by
 refine⟨_,kw,h,hg,.refl _,OpOk.pure fun j ac w _ Av _ _ _=>⟨.bool (if op=.eql then r else !r),by simp[V.den,C.den,E.B],?_⟩⟩;have KG:(V.one c).den U j=ZA (ac.eval x):=Av x Or _ hx;have MT:(V.one d).den U j=ZA (ac.eval y):=Av y Or _ hy;have h1:ac.eval x=X:=(ZN ((hX j).symm.trans KG)).symm;have h2:ac.eval y=Y:=(ZN ((hY j).symm.trans MT)).symm;have h3:=he w;subst hYn;rcases hXY with⟨f,rfl⟩|rfl
 .rcases BM with rfl|rfl<;>simp[execOp,Ad,h1,h2,eqGuard,binOp,h3,ZI]
 .rcases BM with rfl|rfl<;>simp[execOp,Ad,h1,h2,eqGuard,binOp,h3,ZI]
def ae8(BM:op=.eql\/op=.neq){kw:Kw}(Ad:o.op=.binOp op xt x y yt){fs ps:List (Option (Bool×Nat×Nat))}(hx:vw.ev x=ZA (.one (.clo g fs ps)))(hy:vw.ev y=ZA (.one .nf))(he:∀f a b w,(Op.equal xt (.func (.func f) a b) .nilFunc).run P w=.ok ZC w)(h:(k {val:=.one (.bool (.tt (if op=.eql then ZC else ZB)))} kw).holds sp G U I)(hg:Good sp cx.sm U kw):Sound P sp U G I base cx vw o k kw:=by
 refine⟨_,kw,h,hg,.refl _,OpOk.pure fun j ac w _ Av _ _ _=>⟨.bool (if op=.eql then ZC else ZB),by simp[V.den,C.den,E.B],?_⟩⟩;have KG:(V.one (.clo g fs ps)).den U j=ZA (ac.eval x):=Av x Or _ hx;have MT:(V.one .nf).den U j=ZA (ac.eval y):=Av y Or _ hy;have h2:ac.eval y=.nilFunc:=(ZN MT).symm;have h1:∃f a b,ac.eval x=.func (.func f) a b:=by
  simp only[V.den,C.den,FC]at KG;split at KG
  .exact⟨_,_,_,(ZN KG).symm⟩
  .cases KG
 obtain⟨f,a,b,h1⟩:=h1;have h3:=he f a b w;rcases BM with rfl|rfl<;>simp[execOp,Ad,h1,h2,eqGuard,binOp,h3,ZI]
def ac5(h:Ae kd z=ZB)(hs:kd.signed=ZC):0<=z:=by rw[bA]at h;cases kd<;>simp only[IntKind.min,YV]at * <;>simp at * <;>omega
def qi{x y:Int}:(if y<x then y else x)=min x y/\(if y>x then y else x)=max x y:=by constructor<;>split<;>omega
def dA{kw:Kw}(Ad:o.op=.binOp op xt x y yt){a b:E}(hx:vw.ev x=ZA (.one (.int k1 a)))(hy:vw.ev y=ZA (.one (.int k2 b)))(hr:∀w,(binOp op xt (.int k1 (a.I U)) (.int k2 (b.I U))).run P w=.ok (.int k1 (Ac op k1 (a.I U) (b.I U))) w)(h:(k {val:=.one (.int k1 (jX op k1 a b))} kw).holds sp G U I)(hg:Good sp cx.sm U kw):Sound P sp U G I base cx vw o k kw:=
 ae2 Ad hx hy (fun j=>by simp[V.den,C.den,ud]) hr h hg
def nl{kw:Kw}(Ad:o.op=.binOp op xt x y yt){a b e:E}(hx:vw.ev x=ZA (.one (.int k1 a)))(hy:vw.ev y=ZA (.one (.int k2 b)))(hr:∀w,(binOp op xt (.int k1 (a.I U)) (.int k2 (b.I U))).run P w=.ok (.bool (e.B U)) w)(h:(k {val:=.one (.bool e)} kw).holds sp G U I)(hg:Good sp cx.sm U kw):Sound P sp U G I base cx vw o k kw:=
 ae2 Ad hx hy (fun j=>by simp[V.den,C.den]) hr h hg
def bD(a b:Int):decide (a<=b) = !decide (b<a):=by by_cases h:a<=b<;>simp[h]<;>omega
def vm{kw:Kw}(Ad:o.op=.binOp op xt x y yt)(ho:op=.shl\/op=.shr){a b:E}(hx:vw.ev x=ZA (.one (.int k1 a)))(hy:vw.ev y=ZA (.one (.int k2 b)))
  (h:(if k2.signed then AL (Bt b (.p 0)) (fun neg kw=>if neg then .panic else k {val:=.one (.int k1 (jX op k1 a b))} kw) kw
   else if b.rng kw.vk k2 then k {val:=.one (.int k1 (jX op k1 a b))} kw else .stuck 11:Tr).holds sp G U I) (hg:Good sp cx.sm U kw):Sound P sp U G I base cx vw o k kw:=by
 have hr:¬b.I U<0->∀w,(binOp op xt (.int k1 (a.I U)) (.int k2 (b.I U))).run P w=.ok (.int k1 (Ac op k1 (a.I U) (b.I U))) w:=by intro hb w;rcases ho with rfl|rfl<;>simp[binOp,Op.shift,hb,Ac]
 split at h
 .obtain⟨An,h1,g1,_,l1⟩:=aS _ _ _ h hg;rw[dq]at h1;split at h1
  .exact h1.elim
  next hb=>exact(dA Ad hx hy (hr (fun As=>hb (dg As))) h1 g1).lv l1
 .rename_i hsg;split at h
  next hrg=>have:=ac5 (E.rng_ok hg.vk b hrg) (by simpa using hsg);exact dA Ad hx hy (hr Fn) h hg
  .exact h.elim
def ae7{kw:Kw}(Ad:o.op=.binOp op xt x y yt)(ho:op=.quo\/op=.rem){a b:E}(hx:vw.ev x=ZA (.one (.int k1 a)))(hy:vw.ev y=ZA (.one (.int k1 b)))(h:(AL (Gi b (.p 0)) (fun z kw=>if z then .panic else k {val:=.one (.int k1 (jX op k1 a b))} kw) kw:Tr).holds sp G U I)(hg:Good sp cx.sm U kw):Sound P sp U G I base cx vw o k kw:=by
 obtain⟨An,h1,g1,_,l1⟩:=aS _ _ _ h hg;rw[qh]at h1;split at h1
 .exact h1.elim
 .rename_i hb;have Ew:¬b.I U=0:=by simpa[E.I]using hb
  refine(dA Ad hx hy (fun w=> ?_) h1 g1).lv l1;rcases ho with rfl|rfl<;>simp[Ac,binOp_quo,binOp_rem,Op.intDiv,Ew]
def aoW(hT:∀t i,(t,i)∈cx.ty->TIok P t i){kw:Kw}(Ad:o.op=.binOp op xt x y yt){v u:V}(hx:vw.ev x=ZA v)(hy:vw.ev y=ZA u)(h:(OZ cx op xt v u kw k).holds sp G U I)(hg:Good sp cx.sm U kw):Sound P sp U G I base cx vw o k kw:=by
 unfold OZ at h;split at h
 .split at h
  .exact vm Ad (.inl rfl) hx hy h hg
  .exact vm Ad (.inr rfl) hx hy h hg
  .split at h
   .rename_i hk;have B2:=ar hk;subst B2;split at h
    .exact dA Ad hx hy (fun w=>by simp[Ac,binOp_add,Op.intArith]) h hg
    .exact dA Ad hx hy (fun w=>by simp[Ac,binOp_sub,Op.intArith]) h hg
    .exact dA Ad hx hy (fun w=>by simp[Ac,binOp_mul,Op.intArith]) h hg
    .exact dA Ad hx hy (fun w=>by simp[Ac,binOp_and,intBits_and]) h hg
    .exact dA Ad hx hy (fun w=>by simp[Ac,binOp_or,intBits_or]) h hg
    .exact dA Ad hx hy (fun w=>by simp[Ac,binOp_xor,intBits_xor]) h hg
    .exact dA Ad hx hy (fun w=>by simp[Ac,binOp_andNot,intBits_andNot]) h hg
    .exact ae7 Ad (.inl rfl) hx hy h hg
    .exact ae7 Ad (.inr rfl) hx hy h hg
    .exact nl Ad hx hy (fun w=>by simp[binOp_eql,qh]) h hg
    .exact nl Ad hx hy (fun w=>by simp[binOp_neq,di,qh];rfl) h hg
    .exact nl Ad hx hy (fun w=>by simp[binOp_lss,dq]) h hg
    .exact nl Ad hx hy (fun w=>by simp only[binOp_leq,di,dq,bD];rfl) h hg
    .exact nl Ad hx hy (fun w=>by simp[binOp_gtr,dq]) h hg
    .exact nl Ad hx hy (fun w=>by simp only[binOp_geq,di,dq,ge_iff_le,bD];rfl) h hg
    .exact h.elim
   .exact h.elim
 .rename_i a b;have eqb:∀(i:TI),am xt cx.ty=ZA i->i.isb=ZB->∀w,(Op.equal xt (.bool (a.B U)) (.bool (b.B U))).run P w=.ok (a.B U==b.B U) w:=by
   intro i hi hb w;have hu:=(hT _ _ (ab hi)).isb hb;unfold Op.equal Op.maxDepth Op.equalIn;simp[ZI,run_underlying hu]
  split at h
  .split at h
   .rename_i i hi;split at h
    next hb=>have h3:=eqb i hi hb;exact vv Ad hx hy (u:=.bool (a.B U==b.B U)) (fun j=>by simp[V.den,C.den,ue]) (fun w=>by simp[binOp,h3,ZI]) h hg
    .exact h.elim
   .exact h.elim
  .split at h
   .rename_i i hi;split at h
    next hb=>have h3:=eqb i hi hb;exact vv Ad hx hy (u:=.bool (!(a.B U==b.B U))) (fun j=>by simp[V.den,C.den,ue,di]) (fun w=>by simp[binOp,h3,ZI]) h hg
    .exact h.elim
   .exact h.elim
  .exact h.elim
 .split at h
  .rename_i i hi;split at h
   .rename_i hf;have ht:=(hT _ _ (ab hi)).fnt hf;split at h
    .exact ae8 (.inl rfl) Ad hx hy (fun f a b w=>(ht f a b w).1) h hg
    .exact ae8 (.inr rfl) Ad hx hy (fun f a b w=>(ht f a b w).1) h hg
    .exact h.elim
   .exact h.elim
  .exact h.elim
 .rename_i g;split at h
  .rename_i i hi;split at h
   .rename_i hf;have ht:=(hT _ _ (ab hi)).fnt hf;split at h
    next h0=>cases h0
    next h0=>cases h0
    .exact tv (.inl rfl) Ad hx hy (fun _=>rfl) (fun _=>rfl) (.inl ⟨_,rfl⟩) rfl (fun w=>(ht g #[] #[] w).1) h hg
    .exact tv (.inr rfl) Ad hx hy (fun _=>rfl) (fun _=>rfl) (.inl ⟨_,rfl⟩) rfl (fun w=>(ht g #[] #[] w).1) h hg
    .exact h.elim
   .exact h.elim
  .exact h.elim
 .split at h
  .rename_i i hi;split at h
   .rename_i hf;have ht:=(hT _ _ (ab hi)).fnt hf;split at h
    .exact tv (.inl rfl) Ad hx hy (fun _=>rfl) (fun _=>rfl) (.inr rfl) rfl (fun w=>(ht 0 #[] #[] w).2) h hg
    .exact tv (.inr rfl) Ad hx hy (fun _=>rfl) (fun _=>rfl) (.inr rfl) rfl (fun w=>(ht 0 #[] #[] w).2) h hg
    next h0=>exact absurd rfl h0
    next h0=>exact absurd rfl h0
    .exact h.elim
   .exact h.elim
  .exact h.elim
 .split at h
  .rename_i i e hi he;split at h
   .rename_i hq;simp only[ne]at hq;split at h
    .exact aao hT (.inl rfl) Ad hx hy hi hq.1 ⟨hq.2.1.1,rngs_ok _ kw.vk 0 rfl hq.2.1.2⟩ ⟨hq.2.2.1,rngs_ok _ kw.vk 0 rfl hq.2.2.2⟩ he h hg
    .exact aao hT (.inr rfl) Ad hx hy hi hq.1 ⟨hq.2.1.1,rngs_ok _ kw.vk 0 rfl hq.2.1.2⟩ ⟨hq.2.2.1,rngs_ok _ kw.vk 0 rfl hq.2.2.2⟩ he h hg
    .exact h.elim
   .exact h.elim
  .exact h.elim
 .exact h.elim
end
end Go.Proofs.YtgolejfhoefeaaaGreatDoor
