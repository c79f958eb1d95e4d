import Derived.Test.YtgolejfhoefeaabGreatDoorLib
import Derived.Maps.AppendAt
import Derived.OpenShut
import Derived.Laws.EntriesVeiled
import Derived.Calls
import Derived.Laws.OwnMore
import Derived.Deep.Onto
set_option maxRecDepth 100000
set_option maxHeartbeats 8000000
set_option linter.defProp false
set_option linter.unusedVariables false
set_option linter.unusedSimpArgs false
namespace Go.Proofs.YtgolejfhoefeaabGreatDoor
open Option renaming some->ZA,none->ZD,map_some->ZK
open Bool renaming true->ZB,false->ZC
open Sem renaming run_bind->ZH
open Nat renaming beq->ZI,le_refl->YJ,add_zero->ZP,add_assoc->ZU
open List renaming replicate->YK,length_cons->YM,nil_append->ZM,mem_cons->ZN,length_take->YQ,map_cons->YR,mem_append->ZS,all_cons->YV
open Option.some renaming inj->YL
open Go.IntKind renaming signed->ZQ,bits->YS
open Go.RowKit
variable {w w':World}{x y:Operand}{base xt yt off i c t b g fo Bj ft s:Nat}{op:BinOp}{k k1 kd k2:IntKind}{r:List Int}{a z:Int}{vs:List Value}{o:Bool}{l:List (Nat×Obj)}
abbrev CE:=Option IntKind
inductive E where
 |p (z:Int)
 |w (n:Nat)
 |f (op:BinOp) (k:IntKind) (a b:E)
 |F (k:IntKind) (a:E)
 |mn (a b:E)
 |mx (a b:E)
 |len (a:E)
 |get (a i:E) (c:Nat)
 |nil
 |cons (a t:E)
 |j (b t:E)
 |N (l t:E)
 |tt (b:Bool)
 |s (n:Nat)
 |lt (a b:E)
 |eq (a b:E)
 |not (a:E)
 |and (a b:E)
 |beq (a b:E)
 |getb (a i:E) (c:Nat)
 |g (n:Nat)
 |ln
 |lset (a i:E) (c:Nat) (x:E)
 |lsetb (a i:E) (c:Nat) (x:E)
 |lq (a r:E)
 |lcat (a b:E)
 |lrep (n r:E)
 |ltake (a n:E)
 |ldrop (a n:E)
 |mix (l key:E)
 |lput (l i r:E)
 |nth (i l:E)
 |ite (c a b:E)
 |leq (a b:E)
 deriving Repr,Inhabited
def anu:BinOp->BinOp->Bool
 |.add,.add|.sub,.sub|.mul,.mul|.quo,.quo|.rem,.rem|.and,.and|.or,.or|.xor,.xor|.shl,.shl|.shr,.shr|.andNot,.andNot=>ZB
 |_,_=>ZC
def bB:IntKind->IntKind->Bool
 |.i8,.i8|.i16,.i16|.i32,.i32|.i64,.i64|.u8,.u8|.u16,.u16|.u32,.u32|.u64,.u64=>ZB
 |_,_=>ZC
def ahF{a b:BinOp}(h:anu a b=ZB):a=b:=by cases a<;>cases b<;>first|rfl|cases h
def av{a b:IntKind}(h:bB a b=ZB):a=b:=by cases a<;>cases b<;>first|rfl|cases h
def fy:Int->Int->Bool
 |.ofNat a,.ofNat b=>ZI a b
 |.negSucc a,.negSucc b=>ZI a b
 |_,_=>ZC
def cF{b:Int}(h:fy a b=ZB):a=b:=by cases a<;>cases b<;>simp[fy]at h<;>simp[h]
def vG{b:Int}:fy a b=(a==b):=by
 cases h:fy a b with
 |true=>rw[cF h];simp
 |false=>symm;rw[jq];rintro rfl;cases a<;>simp[fy]at h
def E.same:E->E->Bool
 |.p a,x=>match x with|.p b=>fy a b|_=>ZC
 |.w a,x=>match x with|.w b=>ZI a b|_=>ZC
 |.f o k a b,x=>match x with|.f o' k' a' b'=>anu o o'&&(bB k k'&&(E.same a a'&&E.same b b'))|_=>ZC
 | .F k a,x=>match x with | .F k' a'=>bB k k'&&E.same a a'|_=>ZC
 |.mn a b,x=>match x with|.mn a' b'=>E.same a a'&&E.same b b'|_=>ZC
 |.mx a b,x=>match x with|.mx a' b'=>E.same a a'&&E.same b b'|_=>ZC
 |.len a,x=>match x with|.len a'=>E.same a a'|_=>ZC
 |.get a i c,x=>match x with|.get a' i' c'=>ZI c c'&&(E.same a a'&&E.same i i')|_=>ZC
 |.nil,x=>match x with|.nil=>ZB|_=>ZC
 |.cons a b,x=>match x with|.cons a' b'=>E.same a a'&&E.same b b'|_=>ZC
 |.j a b,x=>match x with|.j a' b'=>E.same a a'&&E.same b b'|_=>ZC
 | .N a b,x=>match x with | .N a' b'=>E.same a a'&&E.same b b'|_=>ZC
 |.tt a,x=>match x with|.tt b=>a==b|_=>ZC
 |.s a,x=>match x with|.s b=>ZI a b|_=>ZC
 |.lt a b,x=>match x with|.lt a' b'=>E.same a a'&&E.same b b'|_=>ZC
 |.eq a b,x=>match x with|.eq a' b'=>E.same a a'&&E.same b b'|_=>ZC
 |.not a,x=>match x with|.not a'=>E.same a a'|_=>ZC
 |.and a b,x=>match x with|.and a' b'=>E.same a a'&&E.same b b'|_=>ZC
 |.beq a b,x=>match x with|.beq a' b'=>E.same a a'&&E.same b b'|_=>ZC
 |.getb a i c,x=>match x with|.getb a' i' c'=>ZI c c'&&(E.same a a'&&E.same i i')|_=>ZC
 |.g a,x=>match x with|.g b=>ZI a b|_=>ZC
 |.ln,x=>match x with|.ln=>ZB|_=>ZC
 |.lset a i c y,x=>match x with|.lset a' i' c' y'=>ZI c c'&&(E.same a a'&&(E.same i i'&&E.same y y'))|_=>ZC
 |.lsetb a i c y,x=>match x with|.lsetb a' i' c' y'=>ZI c c'&&(E.same a a'&&(E.same i i'&&E.same y y'))|_=>ZC
 |.lq a b,x=>match x with|.lq a' b'=>E.same a a'&&E.same b b'|_=>ZC
 |.lcat a b,x=>match x with|.lcat a' b'=>E.same a a'&&E.same b b'|_=>ZC
 |.lrep a b,x=>match x with|.lrep a' b'=>E.same a a'&&E.same b b'|_=>ZC
 |.ltake a b,x=>match x with|.ltake a' b'=>E.same a a'&&E.same b b'|_=>ZC
 |.ldrop a b,x=>match x with|.ldrop a' b'=>E.same a a'&&E.same b b'|_=>ZC
 |.mix a b,x=>match x with|.mix a' b'=>E.same a a'&&E.same b b'|_=>ZC
 |.leq a b,x=>match x with|.leq a' b'=>E.same a a'&&E.same b b'|_=>ZC
 |.nth a b,x=>match x with|.nth a' b'=>E.same a a'&&E.same b b'|_=>ZC
 |.ite a i y,x=>match x with|.ite a' i' y'=>E.same a a'&&(E.same i i'&&E.same y y')|_=>ZC
 |.lput a i y,x=>match x with|.lput a' i' y'=>E.same a a'&&(E.same i i'&&E.same y y')|_=>ZC
def E.same_eq{a b:E}(h:E.same a b=ZB):a=b:=by
 induction a generalizing b<;>cases b<;>first|exact Bool.noConfusion h|skip
 case p.p=>rw[cF h]
 case w.w=>rw[Ah h]
 case s.s=>rw[Ah h]
 case g.g=>rw[Ah h]
 case nil.nil=>rfl
 case ln.ln=>rfl
 case tt.tt=>rw[E.same,cb]at h;rw[h]
 case f.f Ep Er _ _ _ _=>simp only[E.same,ne]at h;obtain⟨h1,h2,h3,h4⟩:=h;rw[ahF h1,av h2,Ep h3,Er h4]
 case F.F ih _ _=>simp only[E.same,ne]at h;rw[av h.1,ih h.2]
 case not.not ih _=>rw[ih h]
 case len.len ih _=>rw[ih h]
 case get.get Ep Er _ _ _=>simp only[E.same,ne]at h;rw[Ah h.1,Ep h.2.1,Er h.2.2]
 case getb.getb Ep Er _ _ _=>simp only[E.same,ne]at h;rw[Ah h.1,Ep h.2.1,Er h.2.2]
 case lset.lset Ep Er ih3 _ _ _ _=>simp only[E.same,ne]at h;rw[Ah h.1,Ep h.2.1,Er h.2.2.1,ih3 h.2.2.2]
 case ite.ite Ep Er ih3 _ _ _=>simp only[E.same,ne]at h;rw[Ep h.1,Er h.2.1,ih3 h.2.2]
 case lput.lput Ep Er ih3 _ _ _=>simp only[E.same,ne]at h;rw[Ep h.1,Er h.2.1,ih3 h.2.2]
 case lsetb.lsetb Ep Er ih3 _ _ _ _=>simp only[E.same,ne]at h;rw[Ah h.1,Ep h.2.1,Er h.2.2.1,ih3 h.2.2.2]
 all_goals
  rename_i Ep Er _ _;simp only[E.same,ne]at h;rw[Ep h.1,Er h.2]
def gt(L:LL)(i:Int)(c:Nat):Int:=(L.getD i.toNat []).getD c 0
def st(L:LL)(i:Int)(c:Nat)(x:Int):LL:=L.set i.toNat ((L.getD i.toNat []).set c x)
def Cc(L:LL)(key:List Int):Int:=(L.findIdx fun r=>r.take key.length==key:Nat)
def Ay(b:Bool):Int:=if b then 1 else 0
inductive Dt where
 |z (x:Int)
 |l (L:LL)
 deriving Inhabited
structure Env where
 i:Nat->Int
 b:Nat->Bool
 l:Nat->LL
def Ac(op:BinOp)(k:IntKind)(a b:Int):Int:=
 match op with
 |.add=>k.wrap (a+b)
 |.sub=>k.wrap (a-b)
 |.mul=>k.wrap (a*b)
 |.quo=>k.wrap (a.tdiv b)
 |.rem=>a.tmod b
 |.and|.or|.xor|.andNot=>bits op k a b
 |.shl=>k.wrap (a*2 ^ min b.toNat k.bits)
 |.shr=>a.fdiv (2 ^ min b.toNat k.bits)
 |_=>0
mutual
def E.I(ρ:Env):E->Int
 |.p z=>z
 |.w n=>ρ.i n
 |.f op k a b=>Ac op k (a.I ρ) (b.I ρ)
 | .F k a=>k.wrap (a.I ρ)
 |.mn a b=>min (a.I ρ) (b.I ρ)
 |.mx a b=>max (a.I ρ) (b.I ρ)
 |.len a=>((a.R ρ).length:Int)
 |.get a i c=>gt (a.R ρ) (i.I ρ) c
 |.mix l key=>Cc (l.R ρ) (key.L ρ)
 |.nth i l=>(l.L ρ).getD (i.I ρ).toNat 0
 |.ite c a b=>if c.B ρ then a.I ρ else b.I ρ
 |_=>0
 termination_by structural x=>x
def E.B(ρ:Env):E->Bool
 |.tt b=>b
 |.s n=>ρ.b n
 |.lt a b=>decide (a.I ρ<b.I ρ)
 |.eq a b=>a.I ρ==b.I ρ
 |.not a=>!a.B ρ
 |.and a b=>a.B ρ&&b.B ρ
 |.beq a b=>a.B ρ==b.B ρ
 |.getb a i c=>gt (a.R ρ) (i.I ρ) c==1
 |.leq a b=>a.R ρ==b.R ρ
 |_=>ZC
 termination_by structural x=>x
def E.L(ρ:Env):E->List Int
 |.cons a t=>a.I ρ::t.L ρ
 |.j b t=>Ay (b.B ρ)::t.L ρ
 |_=>[]
 termination_by structural x=>x
def E.R(ρ:Env):E->LL
 |.g n=>ρ.l n
 |.lset a i c x=>st (a.R ρ) (i.I ρ) c (x.I ρ)
 |.lsetb a i c x=>st (a.R ρ) (i.I ρ) c (Ay (x.B ρ))
 |.lq a r=>a.R ρ++[r.L ρ]
 |.lput a i r=>(a.R ρ).set (i.I ρ).toNat (r.L ρ)
 |.lcat a b=>a.R ρ++b.R ρ
 |.lrep n r=>YK (n.I ρ).toNat (r.L ρ)
 |.ltake a n=>(a.R ρ).take (n.I ρ).toNat
 |.ldrop a n=>(a.R ρ).drop (n.I ρ).toNat
 |_=>[]
 termination_by structural x=>x
end
def E.D(ρ:Env):E->List Dt
 |.cons a t=>.z (a.I ρ)::t.D ρ
 |.j b t=>.z (Ay (b.B ρ))::t.D ρ
 | .N l t=>.l (l.R ρ)::t.D ρ
 |_=>[]
structure SV where
 a:Option Addr
 n:Nat
 c:Nat
 z:List (Nat×Obj)
def SV.v(s:SV):Value:=.slice s.a s.n s.c
def SV.mv(s:SV):Value:=.map (s.a.map (·.block))
def SV.cut(s:SV)(sz l h m:Nat):SV:=⟨if m=l then s.a else s.a.map (·.add (l*sz)),h-l,m-l,[]⟩
def lw(L:LL):ByteArray:=⟨(L.map fun r=>UInt8.ofNat (r.getD 0 0).toNat).toArray⟩
def SV.pv(s:SV):Value:=.pointer (s.a.map fun a=>⟨a.block,0,ZD⟩)
structure Gh where
 y:Nat->Option Nat
 z:Nat->Option Obj
structure J where
 b:Nat->Option Nat
 s:Nat->Option SV
 f:Nat->Option Nat
 g:Gh
def Gh.zero:Gh:=⟨fun _=>Option.none,fun _=>Option.none⟩
def J.zero:J:=⟨fun _=>Option.none,fun _=>Option.none,fun _=>Option.none,Gh.zero⟩
inductive C where
 |int (k:IntKind) (e:E)
 |bool (e:E)
 |ptr (b o:Nat)
 |fp (b o:Nat)
 |fn (f:Nat)
 |np
 |undef
 |sl (id:Nat)
 |ep (id Bj:Nat) (e:E) (off:Nat)
 |nsl
 |nf
 |clo (g:Nat) (fs ps:List (Option (Bool×Nat×Nat)))
 |mp (id:Nat)
 |itp (id mid:Nat)
 |pe (b o n sz:Nat) (e:E) (off:Nat)
 |nmp
 |wn (id sz:Nat) (lo hi:E) (mx:Option E)
 |aw (b o n sz:Nat) (lo hi mx:E)
 |str (e:E)
 |yld (id:Nat)
 deriving Repr,Inhabited
inductive V where
 |one (c:C)
 |agg (cs:List C)
 |tup (vs:List (Bool×List C))
 |top
 deriving Repr,Inhabited
def SV.elem(s:SV)(n:Nat):Option Value:=s.a.map fun a=>.pointer (ZA (a.add n))
def Eu(j:J):Option (Bool×Nat×Nat)->Option Value
 |none=>ZA (.pointer ZD)
 |some (ZB,b,o)=>(j.b b).map fun k=>.pointer (ZA ⟨k,o,ZD⟩)
 |some (ZC,b,o)=>(j.f b).map fun k=>.pointer (ZA ⟨k,o,ZD⟩)
def fg(j:J):List (Option (Bool×Nat×Nat))->Option (List Value)
 |[]=>ZA []
 |x::l=>match Eu j x,fg j l with
   |some v,ZA vs=>ZA (v::vs)
   |_,_=>ZD
def Fh(g:Nat):Option (List Value)->Option (List Value)->Option Value
 |some a,ZA b=>ZA (.func (.func g) a.toArray b.toArray)
 |_,_=>ZD
def gD{a b:Option (List Value)}{v:Value}(h:Fh g a b=ZA v):∃x y,a=ZA x/\b=ZA y/\v=.func (.func g) x.toArray y.toArray:=by cases a<;>cases b<;>simp only[Fh]at h<;>cases h;exact⟨_,_,rfl,rfl,rfl⟩
def Ft(ρ:Env)(mx:Option E)(c:Nat):Nat:=match mx with
 |some m=>(m.I ρ).toNat
 |none=>c
def C.den(ρ:Env)(j:J):C->Option Value
 |.wn id sz lo hi mx=>(j.s id).map fun s=>(s.cut sz (lo.I ρ).toNat (hi.I ρ).toNat (Ft ρ mx s.c)).v
 |.aw b o n sz lo hi mx=>(j.b b).map fun k=>((⟨ZA ⟨k,o,ZD⟩,n,n,[]⟩:SV).cut sz (lo.I ρ).toNat (hi.I ρ).toNat (mx.I ρ).toNat).v
 |.str e=>ZA (.string (lw (e.R ρ)))
 |.yld id=>(j.g.y id).map fun l=>.func (.yield l) #[] #[]
 |.int k e=>ZA (.int k (e.I ρ))
 |.bool e=>ZA (.bool (e.B ρ))
 |.ptr b o=>(j.b b).map fun k=>.pointer (ZA ⟨k,o,ZD⟩)
 |.fp b o=>(j.f b).map fun k=>.pointer (ZA ⟨k,o,ZD⟩)
 |.pe b o _ sz e off=>(j.b b).map fun k=>.pointer (ZA ⟨k,o+((e.I ρ).toNat*sz+off),ZD⟩)
 |.sl id=>(j.s id).map SV.v
 |.ep id Bj e off=>(j.s id).bind fun v=>v.elem ((e.I ρ).toNat*Bj+off)
 |.nsl=>ZA (.slice ZD 0 0)
 |.nf=>ZA .nilFunc
 |.nmp=>ZA (.map ZD)
 |.fn f=>ZA (.func (.func f) #[] #[])
 |.np=>ZA (.pointer ZD)
 |.undef=>ZA Go.undef
 |.clo g fs ps=>Fh g (fg j fs) (fg j ps)
 |.mp id=>(j.s id).map SV.mv
 |.itp id mid=>(j.s id).bind fun s=>(j.s mid).bind fun m=>if m.a=ZA ⟨s.n,0,ZD⟩then ZA s.pv else ZD
def Ad(ρ:Env)(j:J):List C->Option (List Value)
 |[]=>ZA []
 |c::cs=>match c.den ρ j,Ad ρ j cs with
   |some v,ZA vs=>ZA (v::vs)
   |_,_=>ZD
def Bt(ρ:Env)(j:J):Bool×List C->Option Value
 |(ZB,cs)=>(Ad ρ j cs).map fun vs=>.agg vs.toArray
 |(ZC,[c])=>c.den ρ j
 |(ZC,_)=>ZD
def ce(ρ:Env)(j:J):List (Bool×List C)->Option (List Value)
 |[]=>ZA []
 |c::cs=>match Bt ρ j c,ce ρ j cs with
   |some v,ZA vs=>ZA (v::vs)
   |_,_=>ZD
def V.den(ρ:Env)(j:J):V->Option Value
 |.one c=>c.den ρ j
 |.agg cs=>(Ad ρ j cs).map fun vs=>.agg vs.toArray
 |.tup vs=>(ce ρ j vs).map fun vs=>.tuple vs.toArray
 |.top=>ZD
structure Sub(j j':J):Prop where
 b:∀b k,j.b b=ZA k->j'.b b=ZA k
 s:∀b v,j.s b=ZA v->j'.s b=ZA v
 f:∀b k,j.f b=ZA k->j'.f b=ZA k
 y:∀b k,j.g.y b=ZA k->j'.g.y b=ZA k
def Sub.refl(j:J):Sub j j:=⟨fun _ _ h=>h,fun _ _ h=>h,fun _ _ h=>h,fun _ _ h=>h⟩
def Sub.trans{j j' Ts:J}(h:Sub j j')(h':Sub j' Ts):Sub j Ts:=⟨fun b k e=>h'.b b k (h.b b k e),fun b k e=>h'.s b k (h.s b k e),fun b k e=>h'.f b k (h.f b k e),fun b k e=>h'.y b k (h.y b k e)⟩
def Sub.zero(j:J):Sub J.zero j:=⟨fun _ _ h=>ST,fun _ _ h=>ST,fun _ _ h=>ST,fun _ _ h=>ST⟩
def alj{j j':J}(h:Sub j j'){x:Option (Bool×Nat×Nat)}{v:Value}(hd:Eu j x=ZA v):Eu j' x=ZA v:=by
 match x,hd with
 |none,hd=>exact hd
 |some (ZB,b,o),hd=>simp only[Eu,Av]at hd ⊢;obtain⟨k,hk,rfl⟩:=hd;exact⟨k,h.b b k hk,rfl⟩
 |some (ZC,b,o),hd=>simp only[Eu,Av]at hd ⊢;obtain⟨k,hk,rfl⟩:=hd;exact⟨k,h.f b k hk,rfl⟩
def qC{j j':J}(h:Sub j j'):∀{l:List (Option (Bool×Nat×Nat))} {vs:List Value},fg j l=ZA vs->fg j' l=ZA vs
 |[],_,hd=>hd
 |x::l,vs,hd=>by
   simp only[fg]at hd ⊢;cases hx:Eu j x with
   |none=>rw[hx]at hd;cases hd
   |some v=>
     cases hl:fg j l with
     |none=>rw[hx,hl]at hd;cases hd
     |some us=>rw[hx,hl]at hd;rw[alj h hx,qC h hl];exact hd
def C.den_sub{ρ:Env}{j j':J}(h:Sub j j'){c:C}{v:Value}(hd:c.den ρ j=ZA v):c.den ρ j'=ZA v:=by
 cases c with
 |ptr b o=>simp only[C.den,Av]at hd ⊢;obtain⟨k,hk,rfl⟩:=hd;exact⟨k,h.b b k hk,rfl⟩
 |fp b o=>simp only[C.den,Av]at hd ⊢;obtain⟨k,hk,rfl⟩:=hd;exact⟨k,h.f b k hk,rfl⟩
 |sl id=>simp only[C.den,Av]at hd ⊢;obtain⟨u,hu,rfl⟩:=hd;exact⟨u,h.s id u hu,rfl⟩
 |ep id Bj e off=>simp only[C.den,cW]at hd ⊢;obtain⟨u,hu,he⟩:=hd;exact⟨u,h.s id u hu,he⟩
 |wn id sz lo hi mx=>simp only[C.den,Av]at hd ⊢;obtain⟨u,hu,rfl⟩:=hd;exact⟨u,h.s id u hu,rfl⟩
 |aw b o n sz lo hi mx=>simp only[C.den,Av]at hd ⊢;obtain⟨u,hu,rfl⟩:=hd;exact⟨u,h.b b u hu,rfl⟩
 |mp id=>simp only[C.den,Av]at hd ⊢;obtain⟨u,hu,rfl⟩:=hd;exact⟨u,h.s id u hu,rfl⟩
 |yld id=>simp only[C.den,Av]at hd ⊢;obtain⟨u,hu,rfl⟩:=hd;exact⟨u,h.y id u hu,rfl⟩
 |pe b o n sz e off=>simp only[C.den,Av]at hd ⊢;obtain⟨u,hu,rfl⟩:=hd;exact⟨u,h.b b u hu,rfl⟩
 |itp id mid=>simp only[C.den,cW]at hd ⊢;obtain⟨u,hu,m,hm,he⟩:=hd;exact⟨u,h.s id u hu,m,h.s mid m hm,he⟩
 |clo g fs ps=>obtain⟨x,y,hx,hy,rfl⟩:=gD hd;simp only[C.den,qC h hx,qC h hy,Fh]
 |_=>exact hd
def bF{ρ:Env}{j j':J}(h:Sub j j'):∀{cs:List C} {vs:List Value},Ad ρ j cs=ZA vs->Ad ρ j' cs=ZA vs
 |[],_,hd=>hd
 |c::cs,vs,hd=>by
   simp only[Ad]at hd ⊢;cases hc:c.den ρ j with
   |none=>rw[hc]at hd;cases hd
   |some v=>
     cases hl:Ad ρ j cs with
     |none=>rw[hc,hl]at hd;cases hd
     |some l=>rw[hc,hl]at hd;rw[C.den_sub h hc,bF h hl];exact hd
def aml{ρ:Env}{j j':J}(h:Sub j j'){p:Bool×List C}{v:Value}(hd:Bt ρ j p=ZA v):Bt ρ j' p=ZA v:=by
 obtain⟨t,cs⟩:=p;cases t with
 |true=>simp only[Bt,Av]at hd ⊢;obtain⟨l,hl,rfl⟩:=hd;exact⟨l,bF h hl,rfl⟩
 |false=>
   match cs,hd with
   |[c],hd=>exact C.den_sub h hd
def yb{ρ:Env}{j j':J}(h:Sub j j'):∀{cs:List (Bool×List C)} {vs:List Value},ce ρ j cs=ZA vs->ce ρ j' cs=ZA vs
 |[],_,hd=>hd
 |c::cs,vs,hd=>by
   simp only[ce]at hd ⊢;cases hc:Bt ρ j c with
   |none=>rw[hc]at hd;cases hd
   |some v=>
     cases hl:ce ρ j cs with
     |none=>rw[hc,hl]at hd;cases hd
     |some l=>rw[hc,hl]at hd;rw[aml h hc,yb h hl];exact hd
def xP{ρ:Env}{j:J}{id mid:Nat}{v:Value}(h:(C.itp id mid).den ρ j=ZA v):∃s m,j.s id=ZA s/\j.s mid=ZA m/\m.a=ZA ⟨s.n,0,ZD⟩/\v=s.pv:=by
 simp only[C.den,cW]at h;obtain⟨u,hu,m,hm,he⟩:=h;split at he
 next hc=>cases he;exact⟨u,m,hu,hm,hc,rfl⟩
 .cases he
def V.den_sub{ρ:Env}{j j':J}(h:Sub j j'){x:V}{v:Value}(hd:x.den ρ j=ZA v):x.den ρ j'=ZA v:=by
 cases x with
 |one c=>exact C.den_sub h hd
 |agg cs=>simp only[V.den,Av]at hd ⊢;obtain⟨l,hl,rfl⟩:=hd;exact⟨l,bF h hl,rfl⟩
 |tup vs=>simp only[V.den,Av]at hd ⊢;obtain⟨l,hl,rfl⟩:=hd;exact⟨l,yb h hl,rfl⟩
 |top=>cases hd
def aP{ρ:Env}{j:J}:∀{cs:List C} {vs:List Value},Ad ρ j cs=ZA vs->vs.length=cs.length
 |[],vs,h=>by cases h;rfl
 |c::cs,vs,h=>by
   simp only[Ad]at h;cases hc:c.den ρ j with
   |none=>rw[hc]at h;cases h
   |some v=>
     cases hl:Ad ρ j cs with
     |none=>rw[hc,hl]at h;cases h
     |some l=>rw[hc,hl]at h;cases h;simp[aP hl]
def dH{ρ:Env}{j:J}:∀{cs:List C} {vs:List Value},Ad ρ j cs=ZA vs->∀(i:Nat) c,cs[i]? =ZA c->∃v,vs[i]? =ZA v/\c.den ρ j=ZA v
 |[],vs,h,i,c,hc=>by simp at hc
 |c::cs,vs,h,i,c',FQ=>by
   simp only[Ad]at h;cases hc:c.den ρ j with
   |none=>rw[hc]at h;cases h
   |some v=>
     cases hl:Ad ρ j cs with
     |none=>rw[hc,hl]at h;cases h
     |some l=>
       rw[hc,hl]at h;cases h;cases i with
       |zero=>simp at FQ;subst FQ;exact⟨v,rfl,hc⟩
       |succ i=>exact dH hl i c' (by simpa using FQ)
def vq{ρ:Env}{j:J}:∀{cs:List C} {vs:List Value},Ad ρ j cs=ZA vs->∀(i:Nat) (c:C) (v:Value),c.den ρ j=ZA v->Ad ρ j (cs.set i c)=ZA (vs.set i v)
 |[],vs,h,i,c,v,hv=>by cases h;rfl
 |c::cs,vs,h,i,c',v',CG=>by
   simp only[Ad]at h;cases hc:c.den ρ j with
   |none=>rw[hc]at h;cases h
   |some v=>
     cases hl:Ad ρ j cs with
     |none=>rw[hc,hl]at h;cases h
     |some l=>
       rw[hc,hl]at h;cases h;cases i with
       |zero=>simp only[List.set_cons_zero,Ad,CG,hl]
       |succ i=>simp only[List.set_cons_succ,Ad,hc,vq hl i c' v' CG]
def eU{ρ:Env}{j:J}:∀{cs ds:List C} {vs us:List Value},Ad ρ j cs=ZA vs->Ad ρ j ds=ZA us->Ad ρ j (cs++ds)=ZA (vs++us)
 |[],ds,vs,us,h,h'=>by cases h;exact h'
 |c::cs,ds,vs,us,h,h'=>by
   simp only[Ad]at h;cases hc:c.den ρ j with
   |none=>rw[hc]at h;cases h
   |some v=>
     cases hl:Ad ρ j cs with
     |none=>rw[hc,hl]at h;cases h
     |some l=>rw[hc,hl]at h;cases h;simp only[List.cons_append,Ad,hc,eU hl h']
def ng{ρ:Env}{j:J}:∀{cs:List C} {vs:List Value},Ad ρ j cs=ZA vs->∀(i:Nat),Ad ρ j (cs.take i)=ZA (vs.take i)
 |[],vs,h,i=>by cases h;simp[Ad]
 |c::cs,vs,h,i=>by
   simp only[Ad]at h;cases hc:c.den ρ j with
   |none=>rw[hc]at h;cases h
   |some v=>
     cases hl:Ad ρ j cs with
     |none=>rw[hc,hl]at h;cases h
     |some l=>
       rw[hc,hl]at h;cases h;cases i with
       |zero=>rfl
       |succ i=>simp only[List.take_succ_cons,Ad,hc,ng hl i]
def kg{ρ:Env}{j:J}:∀{cs:List C} {vs:List Value},Ad ρ j cs=ZA vs->∀(i:Nat),Ad ρ j (cs.drop i)=ZA (vs.drop i)
 |[],vs,h,i=>by cases h;simp[Ad]
 |c::cs,vs,h,i=>by
   have h0:=h;simp only[Ad]at h;cases hc:c.den ρ j with
   |none=>rw[hc]at h;cases h
   |some v=>
     cases hl:Ad ρ j cs with
     |none=>rw[hc,hl]at h;cases h
     |some l=>
       rw[hc,hl]at h;cases h;cases i with
       |zero=>exact h0
       |succ i=>simp only[List.drop_succ_cons];exact kg hl i
def yc{ρ:Env}{j:J}:∀{cs:List (Bool×List C)} {vs:List Value},ce ρ j cs=ZA vs->∀(i:Nat) c,cs[i]? =ZA c->∃v,vs[i]? =ZA v/\Bt ρ j c=ZA v
 |[],vs,h,i,c,hc=>by simp at hc
 |c::cs,vs,h,i,c',FQ=>by
   simp only[ce]at h;cases hc:Bt ρ j c with
   |none=>rw[hc]at h;cases h
   |some v=>
     cases hl:ce ρ j cs with
     |none=>rw[hc,hl]at h;cases h
     |some l=>
       rw[hc,hl]at h;cases h;cases i with
       |zero=>simp at FQ;subst FQ;exact⟨v,rfl,hc⟩
       |succ i=>exact yc hl i c' (by simpa using FQ)
inductive CK where
 |int (k:IntKind)
 |bool
 |fn (g:Nat)
 |p (k:IntKind) (z:Int)
 |sl (ks:List CE) (ty:Nat)
 |nf
 |any
 |rl (ks:List CE) (ty:Nat) (L:LL)
 |el (ks:List CE) (ty:Nat)
 deriving Repr,Inhabited
inductive Sh where
 |one (c:CK)
 |agg (cs:List CK)
 |ptr (cs:List CK)
 deriving Repr,Inhabited
def Sh.cks:Sh->List CK
 |.one c=>[c]
 |.agg cs=>cs
 |.ptr cs=>cs
inductive VK where
 |int (k:IntKind)
 |bool
 |list (ks:List CE)
 deriving Repr,Inhabited
inductive RK where
 |sl
 |map (nk:Nat) (ka va:Bool)
 |it (mid:Nat) (n:E)
 |ev
 |tab
 deriving Repr,Inhabited
structure RowOb where
 ks:List CE
 ty:Nat
 l:E
 own:Bool
 kd:RK
 deriving Repr,Inhabited
def CM:List CE:=[ZA .i64,ZA .u64,ZA .i64,ZA .u64,ZA .u64,ZA .u64,ZA .u64,ZA .u64]
def RK.isHd:RK->Bool
 |.map _ _ _=>ZB
 |.it _ _=>ZB
 |.tab=>ZB
 |_=>ZC
def RK.isSl:RK->Bool
 |.sl=>ZB
 |_=>ZC
inductive Sig where
 |normal
 |exit (id:Nat)
 |ret
 deriving Repr,Inhabited
inductive LS where
 |ready
 |busy
 |done
 deriving Repr,Inhabited
structure Lp where
 st:LS
 pend:Option Sig
 deriving Repr,Inhabited
inductive Ob where
 |box (cs:List C) (ty:Nat)
 |row (r:RowOb)
 |gone
 |loop (y:Lp)
 deriving Repr,Inhabited
inductive TT where
 |u (v:V)
 |node (l r:TT)
 deriving Repr,Inhabited
def TT.get:TT->Nat->V
 |.u v,_=>v
 |.node l r,i=>bif ZI (Nat.mod i 2) 0 then l.get (Nat.div i 2)else r.get (Nat.div i 2)
def TT.fst:TT->TT
 |.u v=>.u v
 |.node l _=>l
def TT.snd:TT->TT
 |.u v=>.u v
 |.node _ r=>r
def TT.set:Nat->TT->Nat->V->TT
 |0,_,_,v=>.u v
 |d+1,t,i,v=>bif ZI (Nat.mod i 2) 0 then .node (t.fst.set d (Nat.div i 2) v) t.snd else .node t.fst (t.snd.set d (Nat.div i 2) v)
def TT.get_fst(t:TT)(i:Nat)(h:i % 2=0):t.fst.get (i / 2)=t.get i:=by
 cases t with
 |u v=>rfl
 |node l r=>have h':Nat.mod i 2=0:=h;show l.get (i / 2)=_;rw[TT.get,h'];rfl
def TT.get_snd(t:TT)(i:Nat)(h:i % 2≠0):t.snd.get (i / 2)=t.get i:=by
 cases t with
 |u v=>rfl
 |node l r=>
   have h':ZI (Nat.mod i 2) 0=ZC:=by
    cases hb:ZI (Nat.mod i 2) 0 with
    |false=>rfl
    |true=>exact ak (Ah hb) h
   show r.get (i / 2)=_;rw[TT.get,h'];rfl
def TT.get_node(l r:TT)(i:Nat):(TT.node l r).get i=if i % 2=0 then l.get (i / 2)else r.get (i / 2):=by
 split
 next h=>exact(TT.get_fst (.node l r) i h).symm
 next h=>exact(TT.get_snd (.node l r) i h).symm
def TT.get_set(v:V):∀(d:Nat) (t:TT) (i j:Nat),i<2 ^ d->j<2 ^ d->(t.set d i v).get j=if i=j then v else t.get j
 |0,t,i,j,hi,hj=>by
   have:i=j:=by rw[Nat.pow_zero]at hi hj;omega
   rw[ae this];rfl
 |d+1,t,i,j,hi,hj=>by
   have hp:2 ^ (d+1)=2*2 ^ d:=by rw[Nat.pow_succ];omega
   have Hi:i / 2<2 ^ d:=Fn;have IA:j / 2<2 ^ d:=Fn;unfold TT.set;by_cases h:i % 2=0
   .have h':Nat.mod i 2=0:=h;rw[h'];show(TT.node (t.fst.set d (i / 2) v) t.snd).get j=_;rw[TT.get_node];by_cases h2:j % 2=0
    .rw[ae h2,TT.get_set v d t.fst _ _ Hi IA,TT.get_fst t j h2];by_cases e:i=j
     .rw[ae (by rw[e]),ae e]
     .rw[aa Fn,aa e]
    .rw[aa h2,TT.get_snd t j h2,aa Fn]
   .have h':ZI (Nat.mod i 2) 0=ZC:=by
     cases hb:ZI (Nat.mod i 2) 0 with
     |false=>rfl
     |true=>exact ak (Ah hb) h
    rw[h'];show(TT.node t.fst (t.snd.set d (i / 2) v)).get j=_;rw[TT.get_node];by_cases h2:j % 2=0
    .rw[ae h2,TT.get_fst t j h2,aa Fn]
    .rw[aa h2,TT.get_set v d t.snd _ _ Hi IA,TT.get_snd t j h2];by_cases e:i=j
     .rw[ae (by rw[e]),ae e]
     .rw[aa Fn,aa e]
structure TM where
 cur:TT
 n:Nat
 old:List (TT×Nat)
 deriving Repr,Inhabited
def jg:List (TT×Nat)->Nat->Option V
 |[],_=>ZD
 |(t,n)::l,i=>if i<n then ZA (t.get i)else jg l (i-n)
def fh:List (TT×Nat)->Nat
 |[]=>0
 |(_,n)::l=>n+fh l
def TM.get?(m:TM)(i:Nat):Option V:=if i<m.n then ZA (m.cur.get i)else jg m.old (i-m.n)
def TM.length(m:TM):Nat:=m.n+fh m.old
def TM.set(m:TM)(i:Nat)(v:V):TM:=match m with
 |⟨c,n,o⟩=>⟨c.set (Nat.log2 n+1) i v,n,o⟩
def TM.setFrom(m:TM):Nat->List V->TM
 |_,[]=>m
 |i,v::l=>(m.set i v).setFrom (i+1) l
def TM.push(args:List V)(n:Nat)(m:TM):TM:=TM.setFrom ⟨.u (.one .undef),n,(m.cur,m.n)::m.old⟩ 0 args
def TM.pop(m:TM):TM:=match m.old with
 |[]=>⟨m.cur,0,[]⟩
 |(t,n)::l=>⟨t,n,l⟩
def TM.length_set(m:TM)(i:Nat)(v:V):(m.set i v).length=m.length:=rfl
def TM.n_set(m:TM)(i:Nat)(v:V):(m.set i v).n=m.n:=rfl
def TM.get_set(m:TM)(v:V)(h:i<m.n)(j:Nat):(m.set i v).get? j=if i=j then ZA v else m.get? j:=by
 unfold TM.get?;have hb:m.n<2 ^ (Nat.log2 m.n+1):=Nat.lt_log2_self;by_cases hj:j<m.n
 .rw[ae (show j<(m.set i v).n from hj),ae hj];show ZA ((m.cur.set (Nat.log2 m.n+1) i v).get j)=_;rw[TT.get_set v _ _ _ _ Fn Fn];split<;>rfl
 .rw[aa (show¬j<(m.set i v).n from hj),aa hj,aa Fn];rfl
def qG:∀{l:List (TT×Nat)} {i:Nat},jg l i=ZD↔fh l<=i
 |[],i=>by simp[jg,fh]
 |(t,n)::l,i=>by
   unfold jg fh;split
   .exact Xz
   .rw[qG (l:=l)];omega
def TM.get_none{m:TM}:m.get? i=ZD↔m.length<=i:=by
 unfold TM.get? TM.length;split
 .exact Xz
 .rw[qG];omega
def TM.get_some{m:TM}(h:i<m.length):∃v,m.get? i=ZA v:=by
 cases hg:m.get? i with
 |some v=>exact⟨v,rfl⟩
 |none=>have:=TM.get_none.1 hg;omega
def TM.n_le(m:TM):m.n<=m.length:=Nat.le_add_right _ _
def TM.get_lt{m:TM}(h:i<m.n):m.get? i=ZA (m.cur.get i):=ae h
def TM.setFrom_n:∀(l:List V) (m:TM) (i:Nat),(m.setFrom i l).n=m.n/\(m.setFrom i l).old=m.old
 |[],m,i=>⟨rfl,rfl⟩
 |v::l,m,i=>by rw[TM.setFrom];exact TM.setFrom_n l (m.set i v) (i+1)
def TM.setFrom_get:∀(l:List V) (m:TM) (i j:Nat),i+l.length<=m.n->(m.setFrom i l).get? j=if i<=j/\j<i+l.length then l[j-i]? else m.get? j
 |[],m,i,j,h=>by rw[TM.setFrom,aa (by simp only[List.length_nil];omega)]
 |v::l,m,i,j,h=>by
   simp only[YM]at h ⊢;rw[TM.setFrom,TM.setFrom_get l (m.set i v) (i+1) j (by rw[TM.n_set];omega),TM.get_set m v Fn];by_cases h1:i+1<=j/\j<i+1+l.length
   .rw[ae h1,ae Fn,show j-i=(j-(i+1))+1 by omega,lu]
   .rw[aa h1];by_cases h2:i=j
    .subst h2;rw[ae rfl,ae Fn,Nat.sub_self];rfl
    .rw[aa h2,aa Fn]
def TM.push_n(args:List V)(n:Nat)(m:TM):(m.push args n).n=n:=(TM.setFrom_n _ _ _).1
def TM.push_old(args:List V)(n:Nat)(m:TM):(m.push args n).old=(m.cur,m.n)::m.old:=(TM.setFrom_n _ _ _).2
def TM.push_length(args:List V)(n:Nat)(m:TM):(m.push args n).length=n+m.length:=by unfold TM.length;rw[TM.push_n,TM.push_old];rfl
def TM.push_arg{args:List V}{n:Nat}(m:TM)(h:args.length<=n)(hi:i<args.length):(m.push args n).get? i=args[i]? :=by unfold TM.push;rw[TM.setFrom_get _ _ _ _ Xw,ae Fn,Nat.sub_zero]
def TM.push_undef{args:List V}{n:Nat}(m:TM)(h:args.length<=n)(hi:args.length<=i)(hn:i<n):(m.push args n).get? i=ZA (.one .undef):=by unfold TM.push;rw[TM.setFrom_get _ _ _ _ Xw,aa Fn];exact TM.get_lt (m:=⟨.u (.one .undef),n,(m.cur,m.n)::m.old⟩) hn
def TM.push_old_get{args:List V}{n:Nat}(m:TM)(h:args.length<=n)(i:Nat):(m.push args n).get? (n+i)=m.get? i:=by unfold TM.push;rw[TM.setFrom_get _ _ _ _ Xw,aa Fn];unfold TM.get?;rw[aa (by simp only;omega)];show jg ((m.cur,m.n)::m.old) (n+i-n)=_;rw[Nat.add_sub_cancel_left];rfl
def TM.pop_get{m:TM}(h:m.old≠[])(i:Nat):m.pop.get? i=m.get? (m.n+i):=by
 obtain⟨c,n,old⟩:=m;cases old with
 |nil=>exact(h rfl).elim
 |cons p l=>obtain⟨t,k⟩:=p;show(TM.mk t k l).get? i=(TM.mk c n ((t,k)::l)).get? (n+i);unfold TM.get?;rw[aa (show¬n+i<n by omega)];simp only[Nat.add_sub_cancel_left];rfl
def TM.pop_length{m:TM}(h:m.old≠[]):m.length=m.n+m.pop.length:=by
 obtain⟨c,n,old⟩:=m;cases old with
 |nil=>exact(h rfl).elim
 |cons p l=>obtain⟨t,k⟩:=p;rfl
structure St where
 tmps:TM
 heap:List Ob
 deriving Repr,Inhabited
def St.n(s:St):Nat:=s.tmps.n
def St.le(s:St):s.n<=s.tmps.length:=s.tmps.n_le
inductive Tr where
 |u (e:E)
 |panic
 |stuck (n:Nat)
 |br (e:E) (t f:Tr)
 |call (key:Nat) (ks:List CK) (args:E) (v0:Nat) (t:Tr)
 |loop (lv v0:Nat) (vks:List VK) (init:E) (body:Tr)
 |cut (lv v0:Nat) (vks:List VK) (pre body:Tr)
 |next (lv:Nat) (args:E)
 |at(id:Nat) (s:St)
 |any (v0:Nat) (e:E) (t:Tr)
 |both (v0:Nat) (a b:Tr)
 deriving Repr,Inhabited
structure Spec where
 F:Nat->List Dt->List Dt
 pre:Nat->List Dt->Prop
 hw:World->Prop:=fun _=>True
 hx:∀w w',Ext w w'->hw w->hw w':=by exact fun _ _ _ _=>trivial
 hi:∃w,hw w:=by exact⟨default,trivial⟩
def dI(ds:List Dt)(n:Nat):Int:=match ds[n]? with|some (.z x)=>x|_=>0
def dB(ds:List Dt)(n:Nat):Bool:=dI ds n==1
def dL(ds:List Dt)(n:Nat):LL:=match ds[n]? with|some (.l L)=>L|_=>[]
def eqs(ρ:Env)(ds:List Dt)(v0:Nat):Nat->List CK->Prop
 |_,[]=>True
 |n,.int _::ks=>ρ.i (v0+n)=dI ds n/\eqs ρ ds v0 (n+1) ks
 |n,.bool::ks=>ρ.b (v0+n)=dB ds n/\eqs ρ ds v0 (n+1) ks
 |n,.sl _ _::ks=>ρ.l (v0+n)=dL ds n/\eqs ρ ds v0 (n+1) ks
 |n,_::ks=>eqs ρ ds v0 (n+1) ks
def Ag(n:Nat)(ρ ρ':Env):Prop:=∀i,i<n->ρ.i i=ρ'.i i/\ρ.b i=ρ'.b i/\ρ.l i=ρ'.l i
def Ag.refl(n:Nat)(ρ:Env):Ag n ρ ρ:=fun _ _=>⟨rfl,rfl,rfl⟩
def Ag.trans{n:Nat}{a b c:Env}(h:Ag n a b)(h':Ag n b c):Ag n a c:=fun i hi=>⟨(h i hi).1.trans (h' i hi).1,(h i hi).2.1.trans (h' i hi).2.1,(h i hi).2.2.trans (h' i hi).2.2⟩
def Ag.mono{n m:Nat}{a b:Env}(h:Ag n a b)(hm:m<=n):Ag m a b:=fun i hi=>h i Fn
def Ag.symm{n:Nat}{a b:Env}(h:Ag n a b):Ag n b a:=fun i hi=>⟨(h i hi).1.symm,(h i hi).2.1.symm,(h i hi).2.2.symm⟩
def Aj(k:IntKind)(z:Int):Bool:=decide (k.min<=z)&&decide (z<=k.max)
def CV:CE->Int->Bool
 |some k,z=>Aj k z
 |none,z=>z==0||z==1
def aq:List CE->List Int->Bool
 |[],[]=>ZB
 |k::ks,x::xs=>CV k x&&aq ks xs
 |_,_=>ZC
structure RowsIn(ks:List CE)(L:LL):Prop where
 row:∀r∈L,aq ks r=ZB
 len:L.length<=maxLen
def varD(ρ:Env)(n:Nat):VK->Dt
 |.int _=>.z (ρ.i n)
 |.bool=>.z (Ay (ρ.b n))
 |.list _=>.l (ρ.l n)
def varsD(ρ:Env):Nat->List VK->List Dt
 |_,[]=>[]
 |n,k::ks=>varD ρ n k::varsD ρ (n+1) ks
def okD:VK->Dt->Prop
 |.int k,.z x=>Aj k x=ZB
 |.bool,.z x=>x=0\/x=1
 |.list ks,.l L=>RowsIn ks L
 |_,_=>False
def okDs:List VK->List Dt->Prop
 |[],[]=>True
 |k::ks,d::ds=>okD k d/\okDs ks ds
 |_,_=>False
def GQ(I:Nat->List Dt->Prop)(lv:Nat)(p:List Dt->Prop):Nat->List Dt->Prop:=fun n=>if n=lv then p else I n
def iL(I:Nat->List Dt->Prop)(lv:Nat)(p:List Dt->Prop):GQ I lv p lv=p:=ae rfl
def pR(I:Nat->List Dt->Prop){lv n:Nat}(p:List Dt->Prop)(h:n≠lv):GQ I lv p n=I n:=aa h
def Tr.holds(sp:Spec)(G:Env->E->Prop):Env->(Nat->List Dt->Prop)->Tr->Prop
 |ρ,_,.u e=>G ρ e
 |_,_,.panic=>False
 |_,_,.stuck _=>False
 |_,_,.at _ _=>False
 |ρ,I,.br e t f=>(e.B ρ=ZB->t.holds sp G ρ I)/\(e.B ρ=ZC->f.holds sp G ρ I)
 |ρ,I,.call key ks args v0 t=>sp.pre key (args.D ρ)/\eqs ρ (sp.F key (args.D ρ)) v0 0 ks/\t.holds sp G ρ I
 |ρ,I,.next lv args=>I lv (args.D ρ)
 |ρ,I,.any v0 e t=>∀z:Int,Aj .i64 z=ZB->∃ρ',Ag v0 ρ ρ'/\ρ'.i v0=z/\(e.B ρ'=ZB->t.holds sp G ρ' I)
 |ρ,I,.both v0 a b=>(∃ρ',Ag v0 ρ ρ'/\a.holds sp G ρ' I)/\∃ρ',Ag v0 ρ ρ'/\b.holds sp G ρ' I
 | ρ,I,.loop lv v0 vks init body=>∃(inv:List Dt->Prop) (μ:List Dt->Nat),inv (init.D ρ)/\
   ∀ds,okDs vks ds->inv ds->∃ρ',Ag v0 ρ ρ'/\varsD ρ' v0 vks=ds/\body.holds sp G ρ' (GQ I lv fun JJ=>inv JJ/\μ JJ<μ ds)
 | ρ,I,.cut lv v0 vks pre body=>∃inv:List Dt->Prop,pre.holds sp G ρ (GQ I lv inv)/\
   ∀ds,okDs vks ds->inv ds->∃ρ',Ag v0 ρ ρ'/\varsD ρ' v0 vks=ds/\body.holds sp G ρ' I
structure Sm where
 f:Nat
 key:Nat
 args:List Sh
 res:List Sh
 tup:Bool
 deriving Repr,Inhabited
def Sm.ks(s:Sm):List CK:=s.res.flatMap (·.cks)
def Sm.inp(s:Sm):Option (List CE×Nat):=match s.args,s.res with
 |[.one (.sl ks ty)],[]=>ZA (ks,ty)
 |_,_=>ZD
structure TI where
 agg:Bool
 size:Nat
 zero:List C
 fields:List (Nat×Nat)
 arr:Option (Nat×Nat)
 ik:Option IntKind
 eqok:Bool
 isb:Bool
 sle:Option Nat
 bytes:Nat
 fnt:Bool
 mapt:Option (Nat×Nat)
 keyok:Bool
 kd:Nat
 deriving Repr,Inhabited
structure Kw where
 pc:List (E×Bool)
 log:List (Nat×E×Nat)
 vk:List VK
 lv:Nat
 deriving Repr,Inhabited
structure KwGe(a b:Kw):Prop where
 lv:a.lv=b.lv
 vk:b.vk.length<=a.vk.length
def KwGe.refl(a:Kw):KwGe a a:=⟨rfl,YJ _⟩
def KwGe.trans{a b c:Kw}(h:KwGe a b)(h':KwGe b c):KwGe a c:=⟨h.lv.trans h'.lv,cO h'.vk h.vk⟩
inductive Pl where
 |top (t:Nat)
 |tmpI (t:Nat) (k:IntKind)
 |tmpB (t:Nat)
 |tmpA (t:Nat) (ks:List CE)
 |tmpS (t:Nat) (ks:List CE) (ty:Nat)
 |tmpX (t:Nat) (ks:List CE) (ty:Nat)
 |cI (b o:Nat) (k:IntKind)
 |celB (b o:Nat)
 |cT (b o:Nat) (ks:List CE) (ty:Nat)
 |celV (b o:Nat) (ks:List CE) (ty:Nat)
 |cels (b o:Nat) (ks:List CE)
 |only(ks:List Nat)
 |row (id:Nat)
 |gone (id:Nat)
 |ask
 deriving Repr,Inhabited
structure Cx where
 ty:List (Nat×TI)
 sm:List Sm
 res:List Sh
 fb:List (List C)
 hints:List (Nat×List Pl)
 cuts:List (Nat×List Pl)
 fns:List (Nat×Func×List (Nat×List Pl)×List (Nat×List Pl))
def aj{α:Type}(n:Nat):List (Nat×α)->Option α
 |[]=>ZD
 |(m,a)::l=>if ZI m n then ZA a else aj n l
def af{α:Type}{n:Nat}{a:α}:∀{l:List (Nat×α)},aj n l=ZA a->(n,a)∈l
 |(m,b)::l,h=>by
   simp only[aj]at h;split at h
   next hm=>rw[Ah hm];cases h;exact bG
   .exact cm _ (af h)
def jU(op:BinOp)(k:IntKind)(a b:E):E:=
 match a,b with
 |.p x,.p y=>.p (Ac op k x y)
 |a,b=>.f op k a b
def uU(ρ:Env)(op:BinOp)(k:IntKind)(a b:E):(jU op k a b).I ρ=Ac op k (a.I ρ) (b.I ρ):=by unfold jU;split<;>rfl
def R1(k:IntKind)(a:E):E:=
 match a with
 |.p x=>.p (k.wrap x)
 |a=>.F k a
def aly(ρ:Env)(k:IntKind)(a:E):(R1 k a).I ρ=k.wrap (a.I ρ):=by unfold R1;split<;>rfl
def A8(a b:E):E:=
 match a,b with
 |.p x,.p y=>.tt (decide (x<y))
 |a,b=>if a.same b then .tt ZC else .lt a b
def cC(ρ:Env)(a b:E):(A8 a b).B ρ=decide (a.I ρ<b.I ρ):=by
 unfold A8;split
 .rfl
 .split
  next h=>rw[E.same_eq h];simp[E.B]
  .rfl
def FX(a b:E):E:=
 match a,b with
 |.p x,.p y=>.tt (fy x y)
 |a,b=>if a.same b then .tt ZB else .eq a b
def qL(ρ:Env)(a b:E):(FX a b).B ρ=(a.I ρ==b.I ρ):=by
 unfold FX;split
 .simp[E.B,E.I,vG]
 .split
  next h=>rw[E.same_eq h];simp[E.B]
  .rfl
def eM(a:E):E:=
 match a with
 |.tt b=>.tt (!b)
 |.not a=>a
 |a=>.not a
def db(ρ:Env)(a:E):(eM a).B ρ = !a.B ρ:=by unfold eM;split<;>simp[E.B]
def ic(a b:E):E:=
 match a with
 |.tt ZB=>b
 |.tt ZC=>.tt ZC
 |a=>.and a b
def dQ(ρ:Env)(a b:E):(ic a b).B ρ=(a.B ρ&&b.B ρ):=by unfold ic;split<;>simp[E.B]
def Pq(a b:E):E:=
 match a,b with
 |.tt ZB,b=>b
 |a,.tt ZB=>a
 |.tt ZC,b=>eM b
 |a,.tt ZC=>eM a
 |a,b=>if a.same b then .tt ZB else .beq a b
def uV(ρ:Env)(a b:E):(Pq a b).B ρ=(a.B ρ==b.B ρ):=by
 unfold Pq;split
 .simp[E.B]
 .simp[E.B]
 .rw[db];simp only[E.B];cases b.B ρ<;>rfl
 .rw[db];simp only[E.B];cases a.B ρ<;>rfl
 .split
  next h=>rw[E.same_eq h];simp[E.B]
  .rfl
def xB(a b:E):E:=
 match a,b with
 |.p x,.p y=>.p (min x y)
 |a,b=>if a.same b then a else .mn a b
def ahV(ρ:Env)(a b:E):(xB a b).I ρ=min (a.I ρ) (b.I ρ):=by
 unfold xB;split
 .rfl
 .split
  next h=>rw[E.same_eq h];omega
  .rfl
def Pp(a b:E):E:=
 match a,b with
 |.p x,.p y=>.p (max x y)
 |a,b=>if a.same b then a else .mx a b
def aqU(ρ:Env)(a b:E):(Pp a b).I ρ=max (a.I ρ) (b.I ρ):=by
 unfold Pp;split
 .rfl
 .split
  next h=>rw[E.same_eq h];omega
  .rfl
def nG(L:LL)(i:Int)(c:Nat)(x:Int):(st L i c x).length=L.length:=by simp[st]
def bY:E->E
 |.ln=>.p 0
 |.lset a _ _ _=>bY a
 |.lsetb a _ _ _=>bY a
 |.lput a _ _=>bY a
 |.lq a r=>match bY a with
   |.p z=>.p (z+1)
   |_=>.len (.lq a r)
 |.lcat a b=>match bY a,bY b with
   |.p y,.p z=>.p (y+z)
   |_,_=>.len (.lcat a b)
 |.lrep n r=>match n with
   |.p z=>if decide (0<=z)then .p z else .len (.lrep n r)
   |n=>.len (.lrep n r)
 |.ltake a n=>match bY a,n with
   |.p y,.p z=>.p (if decide (z<=0)then 0 else if decide (z<=y)then z else y)
   |_,_=>.len (.ltake a n)
 |.ldrop a n=>match bY a,n with
   |.p y,.p z=>.p (if decide (z<=0)then y else if decide (z<=y)then y-z else 0)
   |_,_=>.len (.ldrop a n)
 |a=>.len a
def bO(ρ:Env):∀a:E,(bY a).I ρ=((a.R ρ).length:Int):=by
 intro a
 induction a<;>simp only[bY]<;>first|rfl|skip
 case lset ih _ _=>rw[ih];simp[E.R,nG]
 case lsetb ih _ _=>rw[ih];simp[E.R,nG]
 case lput ih _ _=>rw[ih];simp[E.R]
 case lq ih _=>
  split
  next z hz=>rw[hz]at ih;simp only[E.I]at ih;simp[E.R,E.I,ih]
  .rfl
 case lcat Ep Er=>
  split
  next y z hy hz=>rw[hy]at Ep;rw[hz]at Er;simp only[E.I]at Ep Er;simp[E.R,E.I,Ep,Er]
  .rfl
 case lrep n r _ _=>
  split
  .rename_i z;split
   next h=>have:=Ae h;simp[E.R,E.I];omega
   .rfl
  .rfl
 case ltake a n ih _=>
  split
  .rename_i y z hy _;rw[hy]at ih;simp only[E.I]at ih;simp only[E.R,E.I,YQ];split
   next h=>have:=Ae h;omega
   .rename_i h;have h1:¬z<=0:=fun h2=>h (cP h2);split
    next h2=>have:=Ae h2;omega
    next h2=>have h3:¬z<=y:=fun h4=>h2 (cP h4);omega
  .rfl
 case ldrop a n ih _=>
  split
  .rename_i y z hy _;rw[hy]at ih;simp only[E.I]at ih;simp only[E.R,E.I,List.length_drop];split
   next h=>have:=Ae h;omega
   .rename_i h;have h1:¬z<=0:=fun h2=>h (cP h2);split
    next h2=>have:=Ae h2;omega
    next h2=>have h3:¬z<=y:=fun h4=>h2 (cP h4);omega
  .rfl
def aqW(L:LL)(key:List Int):0<=Cc L key/\Cc L key<=(L.length:Int):=by unfold Cc;have:=List.findIdx_le_length (p:=fun r:List Int=>r.take key.length==key) (xs:=L);omega
def OA(l key:E):E:=match l with
 |.ln=>.p 0
 |l=>.mix l key
def ahU(ρ:Env)(l key:E):(OA l key).I ρ=Cc (l.R ρ) (key.L ρ):=by unfold OA;split<;>simp[E.I,E.R,Cc]
def xR:(Lit.int k z).wf=Aj k z:=rfl
def pw(k:IntKind)(z:Int):Aj k (k.wrap z)=ZB:=wf_wrap k z
def acA(op:BinOp)(k:IntKind)(x y:Int):Aj k (bits op k x y)=ZB:=wf_bits op k x y
def bl:Aj k z=ZB↔k.min<=z/\z<=k.max:=by simp[Aj]
def aia(k:IntKind):k.min<=0:=by cases k<;>decide
def aid(k:IntKind):0<=k.max:=by cases k<;>decide
def kD(k:IntKind):Aj k 0=ZB:=bl.2 ⟨aia k,aid k⟩
def E.lenok(vk:List VK):E->Bool
 |.g n=>match vk[n]? with|some (.list _)=>ZB|_=>ZC
 |.ln=>ZB
 |.lset a _ _ _|.lsetb a _ _ _|.lput a _ _|.ltake a _|.ldrop a _=>a.lenok vk
 |_=>ZC
mutual
def E.rng(vk:List VK)(k:IntKind):E->Bool
 |.p z=>Aj k z
 |.w n=>match vk[n]? with|some (.int k')=>bB k' k|_=>ZC
 |.f op k' a _=>bB k' k&&(match op with|.add|.sub|.mul|.quo|.shl|.and|.or|.xor|.andNot=>ZB|.rem|.shr=>a.rng vk k|_=>ZC)
 | .F k' _=>bB k' k
 |.mn a b=>a.rng vk k&&b.rng vk k
 |.mx a b=>a.rng vk k&&b.rng vk k
 |.len a=>bB .i64 k&&a.lenok vk
 |.get a _ c=>a.col vk k c
 |.mix l _=>bB .i64 k&&l.lenok vk
 |.nth _ l=>l.lrng vk k
 |.ite _ a b=>a.rng vk k&&b.rng vk k
 |_=>ZC
 termination_by structural x=>x
def E.col(vk:List VK)(k:IntKind)(c:Nat):E->Bool
 |.g n=>match vk[n]? with|some (.list ks)=>(match ks[c]? with|some (ZA k')=>bB k' k|_=>ZC)|_=>ZC
 |.ln=>ZB
 |.lset a _ c' x=>a.col vk k c&&(!ZI c' c||x.rng vk k)
 |.lsetb a _ c' _=>a.col vk k c &&!ZI c' c
 |.lq a r=>a.col vk k c&&r.rcol vk k c
 |.lput a _ r=>a.col vk k c&&r.rcol vk k c
 |.lcat a b=>a.col vk k c&&b.col vk k c
 |.lrep _ r=>r.rcol vk k c
 |.ltake a _|.ldrop a _=>a.col vk k c
 |_=>ZC
 termination_by structural x=>x
def E.rcol(vk:List VK)(k:IntKind)(c:Nat):E->Bool
 |.cons a t=>match c with|0=>a.rng vk k|c+1=>t.rcol vk k c
 |.j _ t=>match c with|0=>ZC|c+1=>t.rcol vk k c
 |.nil=>ZB
 |_=>ZC
 termination_by structural x=>x
def E.lrng(vk:List VK)(k:IntKind):E->Bool
 |.nil=>ZB
 |.cons a t=>a.rng vk k&&t.lrng vk k
 |_=>ZC
 termination_by structural x=>x
end
def ja(vk:List VK)(b d:Nat):List CE:=match vk[b]? with
 |some (.list ks)=>ks.drop d
 |_=>[]
structure Rm where
 q:List VK
 n:Nat
 g:List CE
 a:Nat
 c:Nat
 q2:List VK
 n2:Nat
structure Rm.ok(vk:List VK)(m:Rm):Prop where
 q:m.q=vk.drop m.n
 g:m.g=ja vk m.a m.c
 q2:m.q2=vk.drop m.n2
def Rm.ini(vk:List VK):Rm:=⟨vk,0,ja vk 0 0,0,0,vk,0⟩
def Rm.ini_ok(vk:List VK):(Rm.ini vk).ok vk:=⟨rfl,rfl,rfl⟩
def E.rngW0(vk:List VK)(k:IntKind)(m:Rm)(e:E):Option Rm:=match e with
 |.w i=>match(bif ZI i m.n then m.q else vk.drop i)with
   |.int k'::q'=>if bB k' k then ZA ⟨q',i+1,m.g,m.a,m.c,m.q2,m.n2⟩else ZD
   |_=>ZD
 |.get (.g b) _ d=>match(bif ZI b m.a&&ZI d m.c then m.g else ja vk b d)with
   |some k'::g'=>if bB k' k then ZA ⟨m.q,m.n,g',b,d+1,m.q2,m.n2⟩else ZD
   |_=>ZD
 |e=>if e.rng vk k then ZA m else ZD
def E.rngW(vk:List VK)(k:IntKind)(m:Rm)(e:E):Option Rm:=match e with
 |.ite _ (.w i) b=>match(bif ZI i m.n2 then m.q2 else vk.drop i)with
   |.int k'::q'=>if bB k' k then(b.rngW0 vk k m).map fun m'=>⟨m'.q,m'.n,m'.g,m'.a,m'.c,q',i+1⟩else ZD
   |_=>ZD
 |e=>e.rngW0 vk k m
def rp{α:Type}{l:List α}{n:Nat}{x:α}{r:List α}(h:l.drop n=x::r):l[n]? =ZA x/\r=l.drop (n+1):=by
 refine⟨?_,?_⟩
 .have:=congrArg (fun l=>l[0]?) h;simpa using this
 .have:=congrArg List.tail h;simpa using this.symm
def abP{vk:List VK}{m m':Rm}{e:E}(hm:m.ok vk)(h:e.rngW0 vk k m=ZA m'):e.rng vk k=ZB/\m'.ok vk:=by
 unfold E.rngW0 at h;split at h
 .rename_i i;have hq:(bif ZI i m.n then m.q else vk.drop i)=vk.drop i:=by
   cases hb:ZI i m.n with
   |false=>rfl
   |true=>rw[Ah hb];exact hm.q
  rw[hq]at h;split at h
  .rename_i k' q' hd;obtain⟨h0,h1⟩:=rp hd;split at h
   next hk=>cases h;refine⟨?_,h1,hm.g,hm.q2⟩;unfold E.rng;rw[h0];exact hk
   .exact ST
  .exact ST
 .rename_i b i d;have hq:(bif ZI b m.a&&ZI d m.c then m.g else ja vk b d)=ja vk b d:=by
   cases hb:ZI b m.a&&ZI d m.c with
   |false=>rfl
   |true=>rw[ne]at hb;rw[Ah hb.1,Ah hb.2];exact hm.g
  rw[hq]at h;split at h
  .rename_i k' g' hd;split at h
   .rename_i hk;cases h;unfold ja at hd;split at hd
    .rename_i ks Bx;obtain⟨h0,h1⟩:=rp hd;refine⟨?_,hm.q,?_,hm.q2⟩
     .unfold E.rng E.col;rw[Bx];simp only[h0];exact hk
     .unfold ja;rw[Bx];exact h1
    .cases hd
   .exact ST
  .exact ST
 .split at h
  next hr=>cases h;exact⟨hr,hm⟩
  .exact ST
def zA{vk:List VK}{m m':Rm}{e:E}(hm:m.ok vk)(h:e.rngW vk k m=ZA m'):e.rng vk k=ZB/\m'.ok vk:=by
 unfold E.rngW at h;split at h
 .rename_i x i b;have hq:(bif ZI i m.n2 then m.q2 else vk.drop i)=vk.drop i:=by
   cases hb:ZI i m.n2 with
   |false=>rfl
   |true=>rw[Ah hb];exact hm.q2
  rw[hq]at h;split at h
  .rename_i k' q' hd;obtain⟨h0,h1⟩:=rp hd;split at h
   .rename_i hk;rw[Av]at h;obtain⟨m2,h2,rfl⟩:=h;obtain⟨h3,h4⟩:=abP hm h2;refine⟨?_,h4.q,h4.g,h1⟩;have h5:(E.w i).rng vk k=ZB:=by
     unfold E.rng;rw[h0];exact hk
    show((E.w i).rng vk k&&b.rng vk k)=ZB;rw[h5,h3];rfl
   .exact ST
  .exact ST
 .exact abP hm h
def E.rok0(vk:List VK):List CE->E->Bool
 |[],.nil=>ZB
 |some k::ks,.cons a t=>a.rng vk k&&t.rok0 vk ks
 |none::ks,.j _ t=>t.rok0 vk ks
 |_,_=>ZC
def E.rokW(vk:List VK):List CE->E->Rm->Bool
 |[],.nil,_=>ZB
 |some k::ks,.cons a t,m=>match a.rngW vk k m with
   |some m'=>E.rokW vk ks t m'
   |none=>ZC
 |none::ks,.j _ t,m=>E.rokW vk ks t m
 |_,_,_=>ZC
def aqo{vk:List VK}:∀{ks:List CE} {e:E} {m:Rm},m.ok vk->E.rokW vk ks e m=ZB->e.rok0 vk ks=ZB:=by
 intro ks
 induction ks with
 |nil=>intro e m _ h;cases e<;>first|rfl|cases h
 |cons k ks ih=>
   intro e m hm h;cases k with
   |none=>cases e<;>first|cases h|exact ih hm h
   |some k=>
     cases e<;>first|cases h|skip
     simp only[E.rokW]at h;split at h
     next m' hw=>obtain⟨h1,h2⟩:=zA hm hw;simp only[E.rok0,h1,ih h2 h,Bool.and_self]
     .exact ST
def E.rok(vk:List VK)(ks:List CE)(e:E):Bool:=E.rokW vk ks e (Rm.ini vk)
def bZ:List CE->List CE->Bool
 |[],[]=>ZB
 |some k::l,ZA k'::r=>bB k k'&&bZ l r
 |none::l,ZD::r=>bZ l r
 |_,_=>ZC
def E.lok(vk:List VK)(ks:List CE):E->Bool
 |.g n=>match vk[n]? with|some (.list ks')=>bZ ks' ks|_=>ZC
 |.ln=>ZB
 |.lset a _ c x=>a.lok vk ks&&(match ks[c]? with|some (ZA k)=>x.rng vk k|_=>ZC)
 |.lsetb a _ c _=>a.lok vk ks&&(match ks[c]? with|some ZD=>ZB|_=>ZC)
 |.lq a r=>a.lok vk ks&&r.rok vk ks
 |.lput a _ r=>a.lok vk ks&&r.rok vk ks
 |.lcat a b=>a.lok vk ks&&b.lok vk ks
 |.lrep _ r=>r.rok vk ks
 |.ltake a _|.ldrop a _=>a.lok vk ks
 |_=>ZC
structure Vk(ρ:Env)(vk:List VK):Prop where
 i:∀n k,vk[n]? =ZA (.int k)->Aj k (ρ.i n)=ZB
 l:∀n ks,vk[n]? =ZA (.list ks)->RowsIn ks (ρ.l n)
def afn(n:Nat)(b:Int):0<=(n:Int).tmod b/\(n:Int).tmod b<=n:=by
 have h2:0<=(n:Int).tmod b:=Int.tmod_nonneg _ Fn;have h1:((n:Int).tmod b).natAbs=n % b.natAbs:=by rw[Int.natAbs_tmod];rfl
 have h3:=Nat.mod_le n b.natAbs;have h4:=Int.natAbs_of_nonneg h2;omega
def akl{b:Int}:(0<=a->0<=a.tmod b/\a.tmod b<=a)/\(a<=0->a<=a.tmod b/\a.tmod b<=0):=by
 constructor
 .intro h;obtain⟨n,rfl⟩:=cj h;exact afn n b
 .intro h;obtain⟨n,hn⟩:=cj (show 0 <= -a by omega);have ha:a = -(n:Int):=Fn;subst ha;rw[Int.neg_tmod];have:=afn n b;omega
def amb{n:Nat}:(0<=a->0<=a.fdiv (2 ^ n)/\a.fdiv (2 ^ n)<=a)/\(a<=0->a<=a.fdiv (2 ^ n)/\a.fdiv (2 ^ n)<=0):=by
 have hp:(0:Int)<2 ^ n:=Int.pow_pos Fn;rw[Int.fdiv_eq_ediv_of_nonneg _ Fn];constructor
 .intro h;exact⟨Int.ediv_nonneg h Fn,Int.ediv_le_self _ h⟩
 .intro h;refine⟨?_,Int.ediv_nonpos_of_nonpos_of_neg h hp⟩;rw[Int.le_ediv_iff_mul_le hp];have h1:(1:Int)<=2 ^ n:=Fn;have:=Int.mul_le_mul_of_nonpos_left h h1;omega
def bQ:∀{a b:List CE},bZ a b=ZB->a=b
 |[],[],_=>rfl
 |some k::l,ZA k'::r,h=>by simp only[bZ,ne]at h;rw[av h.1,bQ h.2]
 |none::l,ZD::r,h=>by rw[bQ (a:=l) (b:=r) h]
def CO(ks:List CE):RK:=if bZ ks CM then .ev else .sl
def cK(ks:List CE):(ks=CM/\CO ks=.ev)\/(bZ ks CM=ZC/\CO ks=.sl):=by
 unfold CO;cases h:bZ ks CM with
 |true=>exact .inl ⟨bQ h,rfl⟩
 |false=>exact .inr ⟨rfl,rfl⟩
def RK.isEv:RK->Bool
 |.ev=>ZB
 |_=>ZC
def RK.isEv_eq{k:RK}(h:k.isEv=ZB):k=.ev:=by cases k<;>first|rfl|cases h
def RK.fits(k:RK)(ks:List CE):Bool:=match k with
 |.sl=>!bZ ks CM
 |.ev=>bZ ks CM
 |_=>ZC
def RK.fits_eq{k:RK}{ks:List CE}(h:k.fits ks=ZB):k=CO ks:=by
 unfold RK.fits at h;unfold CO;split at h
 .rw[aa Xw]
 .rw[ae h]
 .exact ST
def qv{ks:List CE}(h:aq ks r=ZB){k:CE}(hc:ks[c]? =ZA k):CV k (r.getD c 0)=ZB:=by
 induction ks generalizing r c with
 |nil=>simp at hc
 |cons k0 ks ih=>
   cases r with
   |nil=>cases h
   |cons x xs=>
     simp only[aq,ne]at h;cases c with
     |zero=>simp at hc;subst hc;exact h.1
     |succ c=>simpa using ih h.2 Yk
def cn{ks:List CE}(h:aq ks r=ZB):r.length=ks.length:=by
 induction ks generalizing r with
 |nil=>cases r with
   |nil=>rfl
   |cons=>cases h
 |cons k0 ks ih=>cases r with
   |nil=>cases h
   |cons x xs=>simp only[aq,ne]at h;simp[ih h.2]
def qu{ks:List CE}(h:aq ks r=ZB){k:CE}(hc:ks[c]? =ZA k){x:Int}(hx:CV k x=ZB):aq ks (r.set c x)=ZB:=by
 induction ks generalizing r c with
 |nil=>simp at hc
 |cons k0 ks ih=>
   cases r with
   |nil=>cases h
   |cons y ys=>
     simp only[aq,ne]at h;cases c with
     |zero=>simp at hc;subst hc;simp[aq,hx,h.2]
     |succ c=>simp[aq,h.1,ih h.2 Yk]
def Wh{L:LL}(h:∀r∈L,Aj k (r.getD c 0)=ZB)(i:Int):Aj k (gt L i c)=ZB:=by
 unfold gt;cases hr:L[i.toNat]? with
 |none=>rw[show L.getD i.toNat []=[]from by rw[bh,hr];rfl];exact kD k
 |some r=>rw[show L.getD i.toNat []=r from by rw[bh,hr];rfl];exact h r (ew hr)
def xC{L:LL}{i:Int}{x:Int}(h:r∈st L i c x):r∈L\/(∃r0∈L,r=r0.set c x):=by
 unfold st at h;rcases List.mem_or_eq_of_mem_set h with h1|h1
 .exact .inl h1
 .by_cases hi:i.toNat<L.length
  .refine .inr ⟨L[i.toNat],List.getElem_mem _,?_⟩;rw[h1,bh,Az hi];rfl
  .rw[List.set_eq_of_length_le Fn]at h;exact .inl h
def iA(L:LL)(i:Int)(c:Nat)(x:Int):(st L i c x).length=L.length:=by simp[st]
def abf{c':Nat}{x:Int}(h:c'≠c):(r.set c' x).getD c 0=r.getD c 0:=by simp[bh,nE h]
def uv{x:Int}(hx:Aj k x=ZB):Aj k ((r.set c x).getD c 0)=ZB:=by
 rw[bh,dY];simp only[aW];split
 .exact Xx
 .simpa using kD k
def acm{ρ:Env}{vk:List VK}(hv:Vk ρ vk):∀(e:E),e.lenok vk=ZB->(e.R ρ).length<=maxLen:=by
 intro e
 induction e<;>intro h<;>simp only[E.lenok]at h<;>first|cases h|skip
 case g n=>
  split at h
  next ks hk=>exact(hv.l n ks hk).len
  .exact ST
 case ln=>simp[E.R]
 case lset ih _ _=>simpa[E.R,iA]using ih h
 case lput ih _ _=>simpa[E.R]using ih h
 case lsetb ih _ _=>simpa[E.R,iA]using ih h
 case ltake ih _=>exact cO (by simp only[E.R,YQ];omega) (ih h)
 case ldrop ih _=>exact cO (by simp[E.R]) (ih h)
def E.rngs_ok{ρ:Env}{vk:List VK}(hv:Vk ρ vk):∀(e:E),(∀k,e.rng vk k=ZB->Aj k (e.I ρ)=ZB)/\(∀k c,e.col vk k c=ZB->∀r∈e.R ρ,Aj k (r.getD c 0)=ZB)/\(∀k c,e.rcol vk k c=ZB->Aj k ((e.L ρ).getD c 0)=ZB)/\(∀k,e.lrng vk k=ZB->∀x∈e.L ρ,Aj k x=ZB):=by
 intro e
 induction e<;>refine⟨fun k h=> ?_,fun k c h=> ?_,fun k c h=> ?_,fun k h=> ?_⟩<;>(try simp only[E.rng,E.col,E.rcol,E.lrng]at h)<;>first|exact Bool.noConfusion h|skip
 case p.refine_1=>exact h
 case w.refine_1 n=>
  split at h
  next k' hk=>have:=hv.i n k' hk;rw[av h]at this;exact this
  .exact ST
 case f.refine_1 op k' a b iha ihb=>
  rw[ne]at h;obtain⟨h1,h2⟩:=h;have:=av h1;subst this;have tail:∀x:Int,a.rng vk k'=ZB->((0<=a.I ρ->0<=x/\x<=a.I ρ)/\(a.I ρ<=0->a.I ρ<=x/\x<=0))->Aj k' x=ZB:=by
   intro x ha hx;have h3:=bl.1 (iha.1 k' ha);have:=aia k';have:=aid k';rw[bl];by_cases h0:0<=a.I ρ
   .have:=hx.1 h0;omega
   .have:=hx.2 Fn;omega
  simp only[E.I];cases op<;>first
   |exact pw _ _
   |exact acA _ _ _ _
   |exact tail _ h2 akl
   |exact tail _ h2 amb
   |cases h2
 case F.refine_1 k' a _=>rw[<-av h];exact pw _ _
 case mn.refine_1 a b iha ihb=>rw[ne]at h;have h1:=bl.1 (iha.1 k h.1);have h2:=bl.1 (ihb.1 k h.2);rw[bl];simp only[E.I];omega
 case mx.refine_1 a b iha ihb=>rw[ne]at h;have h1:=bl.1 (iha.1 k h.1);have h2:=bl.1 (ihb.1 k h.2);rw[bl];simp only[E.I];omega
 case len.refine_1 a _=>rw[ne]at h;have h1:=acm hv a h.2;rw[<-av h.1,bl];simp only[E.I,maxLen]at h1 ⊢;simp only[IntKind.min,IntKind.max,ZQ,YS];simp;omega
 case get.refine_1 a i c iha _=>exact Wh (iha.2.1 k c h) _
 case mix.refine_1 l key _ _=>rw[ne]at h;have h1:=acm hv l h.2;have h2:=aqW (l.R ρ) (key.L ρ);rw[<-av h.1,bl];simp only[E.I,maxLen]at h1 ⊢;simp only[IntKind.min,IntKind.max,ZQ,YS];simp;omega
 case nth.refine_1 i l _ ihl=>
  simp only[E.I];rw[bh];cases hx:(l.L ρ)[(i.I ρ).toNat]? with
  |none=>exact kD k
  |some x=>exact ihl.2.2.2 k h x (ew hx)
 case ite.refine_1 c a b _ iha ihb=>
  rw[ne]at h;simp only[E.I];split
  .exact iha.1 k h.1
  .exact ihb.1 k h.2
 case nil.refine_4=>intro x hx;simp[E.L]at hx
 case cons.refine_4 a t iha Hq=>
  rw[ne]at h;intro x hx;simp only[E.L,ZN]at hx;rcases hx with rfl|hx
  .exact iha.1 k h.1
  .exact Hq.2.2.2 k h.2 x hx
 case nil.refine_3=>simpa[E.L]using kD k
 case cons.refine_3 a t iha Hq=>
  cases c with
  |zero=>simpa[E.L]using iha.1 k h
  |succ c=>simpa[E.L]using Hq.2.2.1 k c h
 case j.refine_3 b t _ Hq=>
  cases c with
  |zero=>cases h
  |succ c=>simpa[E.L]using Hq.2.2.1 k c h
 case g.refine_2 n=>
  split at h
  .rename_i ks Bx;split at h
   next k' hk=>intro r hr;have:=qv ((hv.l n ks Bx).row r hr) hk;rw[av h]at this;exact this
   .exact ST
  .exact ST
 case ln.refine_2=>intro r hr;cases hr
 case lset.refine_2 a i c' x iha _ ihx=>
  rw[ne]at h;intro r hr;rcases xC hr with hr|⟨r0,FF,rfl⟩
  .exact iha.2.1 k c h.1 r hr
  .by_cases hc:c'=c
   .subst hc;have h2:=h.2;rw[show ZI c' c'=ZB from by simp]at h2;exact uv (ihx.1 k XJ)
   .rw[abf hc];exact iha.2.1 k c h.1 r0 FF
 case lsetb.refine_2 a i c' x iha _ _=>
  rw[ne]at h;intro r hr;have hc:c'≠c:=fun e=>by have:=h.2;rw[e]at this;simp at this
  rcases xC hr with hr|⟨r0,FF,rfl⟩
  .exact iha.2.1 k c h.1 r hr
  .rw[abf hc];exact iha.2.1 k c h.1 r0 FF
 case lput.refine_2 a i r iha _ ihr=>
  rw[ne]at h;intro x hx;rcases List.mem_or_eq_of_mem_set hx with hx|rfl
  .exact YC
  .exact ihr.2.2.1 k c h.2
 case lq.refine_2 a r iha ihr=>
  rw[ne]at h;intro x hx;simp only[E.R,ZS,cV]at hx;rcases hx with hx|rfl
  .exact YC
  .exact ihr.2.2.1 k c h.2
 case lcat.refine_2 a b iha ihb=>
  rw[ne]at h;intro x hx;simp only[E.R,ZS]at hx;rcases hx with hx|hx
  .exact YC
  .exact ihb.2.1 k c h.2 x hx
 case lrep.refine_2 n r _ ihr=>intro x hx;simp only[E.R,List.mem_replicate]at hx;rw[hx.2];exact ihr.2.2.1 k c h
 case ltake.refine_2 a n iha _=>intro x hx;exact iha.2.1 k c h x (List.mem_of_mem_take hx)
 case ldrop.refine_2 a n iha _=>intro x hx;exact iha.2.1 k c h x (List.mem_of_mem_drop hx)
def E.rng_ok{ρ:Env}{vk:List VK}(hv:Vk ρ vk)(e:E)(h:e.rng vk k=ZB):Aj k (e.I ρ)=ZB:=(E.rngs_ok hv e).1 k h
def E.rok0_ok{ρ:Env}{vk:List VK}(hv:Vk ρ vk):∀{ks:List CE} {e:E},e.rok0 vk ks=ZB->aq ks (e.L ρ)=ZB:=by
 intro ks
 induction ks with
 |nil=>intro e h;cases e<;>first|rfl|cases h
 |cons k ks ih=>
   intro e h;cases k with
   |none=>
     cases e<;>first|cases h|skip
     simp only[E.rok0]at h;rename_i b t;simp only[E.L,aq,ne];exact⟨by cases b.B ρ<;>rfl,ih h⟩
   |some k=>
     cases e<;>first|cases h|skip
     simp only[E.rok0,ne]at h;simp only[E.L,aq,ne];exact⟨E.rng_ok hv _ h.1,ih h.2⟩
def E.rok_ok{ρ:Env}{vk:List VK}(hv:Vk ρ vk){ks:List CE}{e:E}(h:e.rok vk ks=ZB):aq ks (e.L ρ)=ZB:=E.rok0_ok hv (aqo (Rm.ini_ok vk) h)
def UF(b:Bool):CV ZD (Ay b)=ZB:=by cases b<;>rfl
def E.lok_ok{ρ:Env}{vk:List VK}(hv:Vk ρ vk){ks:List CE}:∀(e:E),e.lok vk ks=ZB->∀r∈e.R ρ,aq ks r=ZB:=by
 intro e
 induction e<;>intro h<;>simp only[E.lok]at h<;>first|exact Bool.noConfusion h|skip
 case g n=>
  split at h
  next ks' hk=>rw[<-bQ h];exact(hv.l n ks' hk).row
  .exact ST
 case ln=>intro r hr;cases hr
 case lset a i c x iha _ _=>
  rw[ne]at h;intro r hr;rcases xC hr with hr|⟨r0,FF,rfl⟩
  .exact iha h.1 r hr
  .have h2:=h.2;split at h2
   next k hk=>exact qu (iha h.1 r0 FF) hk (E.rng_ok hv x h2)
   .exact XO
 case lsetb a i c x iha _ _=>
  rw[ne]at h;intro r hr;rcases xC hr with hr|⟨r0,FF,rfl⟩
  .exact iha h.1 r hr
  .have h2:=h.2;split at h2
   next hk=>exact qu (iha h.1 r0 FF) hk (UF _)
   .exact XO
 case lput a i r iha _ _=>
  rw[ne]at h;intro x hx;rcases List.mem_or_eq_of_mem_set hx with hx|rfl
  .exact iha h.1 x hx
  .exact E.rok_ok hv h.2
 case lq a r iha _=>
  rw[ne]at h;intro x hx;simp only[E.R,ZS,cV]at hx;rcases hx with hx|rfl
  .exact iha h.1 x hx
  .exact E.rok_ok hv h.2
 case lcat a b iha ihb=>
  rw[ne]at h;intro x hx;simp only[E.R,ZS]at hx;rcases hx with hx|hx
  .exact iha h.1 x hx
  .exact ihb h.2 x hx
 case lrep n r _ _=>intro x hx;simp only[E.R,List.mem_replicate]at hx;rw[hx.2];exact E.rok_ok hv h
 case ltake a n iha _=>intro x hx;exact iha h x (List.mem_of_mem_take hx)
 case ldrop a n iha _=>intro x hx;exact iha h x (List.mem_of_mem_drop hx)
def Kw.look(e:E):List (E×Bool)->Option Bool
 |[]=>ZD
 |(x,b)::l=>if x.same e then ZA b else Kw.look e l
structure Good(sp:Spec)(sm:List Sm)(ρ:Env)(kw:Kw):Prop where
 pc:∀p∈kw.pc,p.1.B ρ=p.2
 vk:Vk ρ kw.vk
 log:∀p∈kw.log,∃s∈sm,s.key=p.1/\sp.pre s.key (p.2.1.D ρ)/\eqs ρ (sp.F s.key (p.2.1.D ρ)) p.2.2 0 s.ks
def ah3{ρ:Env}{e:E}{b:Bool}:∀{l:List (E×Bool)},(∀p∈l,p.1.B ρ=p.2)->Kw.look e l=ZA b->e.B ρ=b
 |(x,c)::l,hl,h=>by
   simp only[Kw.look]at h;split at h
   next hs=>have:=hl (x,c) bG;rw[<-E.same_eq hs];cases h;exact this
   .exact ah3 (fun p hp=>hl p (cm _ hp)) h
def Us(vk:List VK):E->Option Bool
 |.lt (.p z) (.w n)=>match vk[n]? with
   |some (.int k)=>if decide (k.max<=z)then ZA ZC else ZD
   |_=>ZD
 |.lt (.w n) (.p z)=>match vk[n]? with
   |some (.int k)=>if decide (z<=k.min)then ZA ZC else ZD
   |_=>ZD
 |.lt (.len _) (.p z)=>if decide (z<=0)then ZA ZC else ZD
 |_=>ZD
def ahm{ρ:Env}{vk:List VK}(hv:Vk ρ vk){e:E}{b:Bool}(h:Us vk e=ZA b):e.B ρ=b:=by
 unfold Us at h;split at h
 .split at h
  .rename_i k hk;split at h
   next hz=>cases h;have h1:=bl.1 (hv.i _ _ hk);have h2:=Ae hz;simp only[E.B,E.I];exact fB Fn
   .exact ST
  .exact ST
 .split at h
  .rename_i k hk;split at h
   next hz=>cases h;have h1:=bl.1 (hv.i _ _ hk);have h2:=Ae hz;simp only[E.B,E.I];exact fB Fn
   .exact ST
  .exact ST
 .split at h
  next hz=>cases h;have h2:=Ae hz;simp only[E.B,E.I];exact fB Fn
  .exact ST
 .exact ST
def Ps(a:E)(y:Int):List (E×Bool)->Bool
 |[]=>ZC
 |(.eq a' (.p x),ZB)::l=>(!fy x y&&a'.same a)||Ps a y l
 |_::l=>Ps a y l
def anD:List (E×Bool)->Bool
 |[]=>ZC
 |[(.tt ZB,ZB)]=>ZB
 |_::l=>anD l
def Kw.ex(e:E)(pc:List (E×Bool)):Option Bool:=match e with
 |.eq a (.p y)=>if anD pc&&Ps a y pc then ZA ZC else ZD
 |_=>ZD
def acJ{ρ:Env}{a:E}{y:Int}:∀{l:List (E×Bool)},(∀p∈l,p.1.B ρ=p.2)->Ps a y l=ZB->(E.eq a (.p y)).B ρ=ZC
 |p::l,hp,h=>by
   have ih:=acJ (a:=a) (y:=y) (l:=l) (fun q hq=>hp q (cm _ hq));unfold Ps at h;split at h
   next h0=>cases h0
   .rename_i a' x l' h0;cases h0;rw[eu,ne]at h;rcases h with h|h
    .have h1:=hp _ bG;simp only[E.B,E.I,cb]at h1;simp only[E.B,E.I,jq];intro h2;rw[<-E.same_eq h.2,h1]at h2;subst h2;have h3:fy x x=ZB:=by rw[vG];exact beq_self_eq_true x
     rw[h3]at h;cases h.1
    .exact ih h
   next h0=>cases h0;exact ih h
def awy{ρ:Env}{e:E}{b:Bool}{l:List (E×Bool)}(hp:∀p∈l,p.1.B ρ=p.2)(h:Kw.ex e l=ZA b):e.B ρ=b:=by
 unfold Kw.ex at h;split at h
 .split at h
  next hq=>cases h;exact acJ hp (ne _ _ |>.mp hq).2
  .exact ST
 .exact ST
def MK(e:E)(k:Bool->Kw->Tr)(kw:Kw):Tr:=
 match Us kw.vk e with
 |some b=>k b kw
 |none=>match Kw.look e kw.pc with
 |some b=>k b kw
 |none=>match Kw.ex e kw.pc with
 |some b=>k b kw
 |none=>.br e (k ZB {kw with pc:=(e,ZB)::kw.pc}) (k ZC {kw with pc:=(e,ZC)::kw.pc})
def AB:E->(Bool->Kw->Tr)->Kw->Tr
 |.tt b,k,kw=>k b kw
 |.not a,k,kw=>AB a (fun b kw=>k (!b) kw) kw
 |.and a b,k,kw=>AB a (fun x kw=>if x then AB b k kw else k ZC kw) kw
 |e,k,kw=>MK e k kw
section
variable {sp:Spec}{sm:List Sm}{ρ:Env}{G:Env->E->Prop}{I:Nat->List Dt->Prop}
def ar0{e:E}{k:Bool->Kw->Tr}{kw:Kw}(h:(MK e k kw).holds sp G ρ I)(hg:Good sp sm ρ kw):∃Ak,(k (e.B ρ) Ak).holds sp G ρ I/\Good sp sm ρ Ak/\Ak.vk=kw.vk/\KwGe Ak kw:=by
 unfold MK at h;split at h
 next b hb=>rw[ahm hg.vk hb];exact⟨kw,h,hg,rfl,.refl _⟩
 split at h
 next b hb=>rw[ah3 hg.pc hb];exact⟨kw,h,hg,rfl,.refl _⟩
 split at h
 next b hb=>rw[awy hg.pc hb];exact⟨kw,h,hg,rfl,.refl _⟩
 .cases hb:e.B ρ with
  |true=>exact⟨_,h.1 hb,⟨fun p hp=>by
    rcases ZN.1 hp with rfl|hp
    .exact hb
    .exact hg.pc p hp,hg.vk,hg.log⟩,rfl,rfl,YJ _⟩
  |false=>exact⟨_,h.2 hb,⟨fun p hp=>by
    rcases ZN.1 hp with rfl|hp
    .exact hb
    .exact hg.pc p hp,hg.vk,hg.log⟩,rfl,rfl,YJ _⟩
def aC:∀(e:E) (k:Bool->Kw->Tr) (kw:Kw),(AB e k kw).holds sp G ρ I->Good sp sm ρ kw->∃Ak,(k (e.B ρ) Ak).holds sp G ρ I/\Good sp sm ρ Ak/\Ak.vk=kw.vk/\KwGe Ak kw
 |.tt b,k,kw,h,hg=>⟨kw,h,hg,rfl,.refl _⟩
 |.not a,k,kw,h,hg=>aC a (fun b kw=>k (!b) kw) kw h hg
 |.and a b,k,kw,h,hg=>by
   obtain⟨Bn,h1,g1,v1,l1⟩:=aC a _ kw h hg;simp only[E.B];cases ha:a.B ρ with
   |true=>rw[ha]at h1;obtain⟨Dd,h2,g2,v2,l2⟩:=aC b k Bn h1 g1;exact⟨Dd,h2,g2,v2.trans v1,l2.trans l1⟩
   |false=>rw[ha]at h1;exact⟨Bn,h1,g1,v1,l1⟩
 |.p _,k,kw,h,hg|.w _,k,kw,h,hg|.f _ _ _ _,k,kw,h,hg | .F _ _,k,kw,h,hg|.mn _ _,k,kw,h,hg|.mx _ _,k,kw,h,hg|.nil,k,kw,h,hg
 |.len _,k,kw,h,hg|.get _ _ _,k,kw,h,hg | .N _ _,k,kw,h,hg|.getb _ _ _,k,kw,h,hg|.g _,k,kw,h,hg|.ln,k,kw,h,hg|.lset _ _ _ _,k,kw,h,hg|.lsetb _ _ _ _,k,kw,h,hg|.lq _ _,k,kw,h,hg|.lcat _ _,k,kw,h,hg|.lrep _ _,k,kw,h,hg|.ltake _ _,k,kw,h,hg|.ldrop _ _,k,kw,h,hg|.mix _ _,k,kw,h,hg|.lput _ _ _,k,kw,h,hg|.nth _ _,k,kw,h,hg|.ite _ _ _,k,kw,h,hg|.leq _ _,k,kw,h,hg
 |.cons _ _,k,kw,h,hg|.j _ _,k,kw,h,hg|.s _,k,kw,h,hg|.lt _ _,k,kw,h,hg|.eq _ _,k,kw,h,hg|.beq _ _,k,kw,h,hg=>ar0 h hg
end
inductive RE where
 |none
 |set (id:Nat) (r:RowOb)
 |mk (rs:List RowOb)
 |app (old:Nat) (r:RowOb)
 |view (old:Nat) (q r:RowOb)
 |frz (old:Nat) (q r:RowOb)
 |peek (r:RowOb)
 |tset (old:Nat) (q:RowOb) (tab:Nat) (r:RowOb)
 deriving Repr,Inhabited
def E3:Nat->List RowOb->List (Nat×Option RowOb)
 |_,[]=>[]
 |n,r::l=>(n,ZA r)::E3 (n+1) l
def RE.rs(nid:Nat):RE->List (Nat×Option RowOb)
 |.none=>[]
 |.set id r=>[(id,ZA r)]
 |.mk rs=>E3 nid rs
 |.app old r=>[(old,Option.none),(nid,ZA r)]
 |.view old q r=>[(old,ZA q),(nid,ZA r)]
 |.frz old q r=>[(old,ZA q),(nid,ZA r)]
 |.peek r=>[(nid,ZA r)]
 |.tset old q tab r=>[(old,ZA q),(tab,ZA r)]
def jO(ld:Nat->Nat->Option C)(b:Nat):Nat->Nat->Option (List C)
 |_,0=>ZA []
 |o,n+1=>match ld b o,jO ld b (o+1) n with
   |some c,ZA cs=>ZA (c::cs)
   |_,_=>ZD
def Po:List C->Nat->Option (List C)
 |_,0=>ZA []
 |c::cs,n+1=>(Po cs n).map (c::·)
 |[],_+1=>ZD
def Q6:List C->Nat->Nat->Option (List C)
 |cs,0,n=>Po cs n
 |_::cs,o+1,n=>Q6 cs o n
 |[],_+1,_=>ZD
def aaY{ld:Nat->Nat->Option C}{b:Nat}:∀{n:Nat} {cs ds:List C} {o:Nat},Po cs n=ZA ds->(∀i,ld b (o+i)=cs[i]?)->jO ld b o n=ZA ds
 |0,cs,ds,o,h,_=>by
   have:ds=[]:=by cases cs<;>simpa[Po]using h.symm
   subst this;rfl
 |n+1,c::cs,ds,o,h,hl=>by simp only[Po,Av]at h;obtain⟨es,h1,rfl⟩:=h;have h2:=aaY (ld:=ld) (b:=b) (o:=o+1) h1 (fun i=>by rw[show o+1+i=o+(i+1) by omega,hl];rfl);have h0:=hl 0;simp only[ZP,cH]at h0;simp only[jO,h0,h2]
 |n+1,[],ds,o,h,_=>by cases h
def Uf{ld:Nat->Nat->Option C}{b:Nat}{n:Nat}:∀{o k:Nat} {cs ds:List C},Q6 cs o n=ZA ds->(∀i,ld b (k+i)=cs[i]?)->jO ld b (k+o) n=ZA ds
 |0,k,cs,ds,h,hl=>aaY (cs:=cs) (by cases cs<;>exact h) hl
 |o+1,k,c::cs,ds,h,hl=>by have:=Uf (ld:=ld) (b:=b) (o:=o) (k:=k+1) (cs:=cs) (ds:=ds) h (fun i=>by rw[show k+1+i=k+(i+1) by omega,hl];rfl);rwa [show k+(o+1)=k+1+o by omega]
 |o+1,k,[],ds,h,_=>by cases h
structure Vw where
 ev:Operand->Option V
 ld:Nat->Nat->Option C
 rw:Nat->Option RowOb
 fb:Nat->Option (List C)
 nid:Nat
 row:Nat->Nat->Nat->Option (List C)
 rowok:∀b o n cs,row b o n=ZA cs->jO ld b o n=ZA cs
def Vw.sw(vw:Vw)(id:Nat):Option RowOb:=match vw.rw id with
 |some r=>if r.kd.isSl then ZA r else ZD
 |none=>ZD
def Vw.sw_some{vw:Vw}{id:Nat}{r:RowOb}(h:vw.sw id=ZA r):vw.rw id=ZA r/\r.kd=.sl:=by
 unfold Vw.sw at h;split at h
 .rename_i q hq;split at h
  .rename_i hk;cases h;refine⟨hq,?_⟩;cases hd:r.kd with
   |sl=>rfl
   |_=>rw[hd]at hk;cases hk
  .exact ST
 .exact ST
def Vw.tw(vw:Vw)(id:Nat):Option RowOb:=match vw.rw id with
 |some r=>if r.kd.fits r.ks then ZA r else ZD
 |none=>ZD
def Vw.tw_some{vw:Vw}{id:Nat}{r:RowOb}(h:vw.tw id=ZA r):vw.rw id=ZA r/\r.kd=CO r.ks:=by
 unfold Vw.tw at h;split at h
 .rename_i q hq;split at h
  next hk=>cases h;exact⟨hq,RK.fits_eq hk⟩
  .exact ST
 .exact ST
structure Eff where
 val:V
 al:Option (List C×Nat):=ZD
 rd:List (Nat×Nat):=[]
 wr:List (Nat×Nat×C):=[]
 rr:List Nat:=[]
 re:RE:=.none
 deriving Repr,Inhabited
def sG:Value->Option C
 |.int k z=>ZA (.int k (.p z))
 |.bool b=>ZA (.bool (.tt b))
 |.pointer ZD=>ZA .np
 |.func (.func f) ⟨[]⟩ ⟨[]⟩=>ZA (.fn f)
 |.slice ZD 0 0=>ZA .nsl
 |.nilFunc=>ZA .nf
 |.map ZD=>ZA .nmp
 |.string ⟨⟨[]⟩⟩=>ZA (.str .ln)
 |_=>ZD
def nZ:List Value->Option (List C)
 |[]=>ZA []
 |v::vs=>match sG v,nZ vs with
   |some c,ZA cs=>ZA (c::cs)
   |_,_=>ZD
def ofValue:Value->Option V
 |.agg ⟨vs⟩=>(nZ vs).map .agg
 |v=>(sG v).map .one
def xv{v:Value}{c:C}(h:sG v=ZA c)(ρ:Env)(j:J):c.den ρ j=ZA v:=by unfold sG at h;split at h<;>cases h<;>rfl
def sF(ρ:Env)(j:J):∀{vs:List Value} {cs:List C},nZ vs=ZA cs->Ad ρ j cs=ZA vs
 |[],cs,h=>by cases h;rfl
 |v::vs,cs,h=>by
   simp only[nZ]at h;cases hc:sG v with
   |none=>rw[hc]at h;cases h
   |some c=>
     cases hl:nZ vs with
     |none=>rw[hc,hl]at h;cases h
     |some l=>rw[hc,hl]at h;cases h;simp only[Ad,xv hc,sF ρ j hl]
def adN{v:Value}{x:V}(h:ofValue v=ZA x)(ρ:Env)(j:J):x.den ρ j=ZA v:=by
 unfold ofValue at h;split at h
 .rename_i vs;cases hc:nZ vs with
  |none=>rw[hc]at h;cases h
  |some cs=>rw[hc]at h;cases h;simp[V.den,sF ρ j hc]
 .cases hc:sG v with
  |none=>rw[hc]at h;cases h
  |some c=>rw[hc]at h;cases h;exact xv hc ρ j
def V.cells:V->List C
 |.one c=>[c]
 |.agg cs=>cs
 |.tup _=>[]
 |.top=>[]
def V.flat:V->Bool
 |.tup _=>ZC
 |.top=>ZC
 |_=>ZB
def aak{ρ:Env}{j:J}{c:C}{v:Value}(h:c.den ρ j=ZA v):v.cells = #[v]:=by
 cases c<;>simp only[C.den,Av]at h
 case ptr b o=>obtain⟨k,_,rfl⟩:=h;rfl
 case fp b o=>obtain⟨k,_,rfl⟩:=h;rfl
 case sl id=>obtain⟨k,_,rfl⟩:=h;rfl
 case ep id Bj e off=>simp only[cW,SV.elem,Av]at h;obtain⟨k,_,a,_,rfl⟩:=h;rfl
 case clo=>obtain⟨x,y,_,_,rfl⟩:=gD h;rfl
 case mp id=>obtain⟨k,_,rfl⟩:=h;rfl
 case yld id=>obtain⟨k,_,rfl⟩:=h;rfl
 case wn id sz lo hi mx=>obtain⟨k,_,rfl⟩:=h;rfl
 case aw b o n sz lo hi mx=>obtain⟨k,_,rfl⟩:=h;rfl
 case pe b o n sz e off=>obtain⟨k,_,rfl⟩:=h;rfl
 case itp id mid=>obtain⟨_,_,_,_,_,rfl⟩:=xP (ρ:=ρ) h;rfl
 all_goals cases h;rfl
def V.cells_ok{ρ:Env}{j:J}{x:V}{v:Value}(h:x.den ρ j=ZA v)(hf:x.flat=ZB):Ad ρ j x.cells=ZA v.cells.toList:=by
 cases x with
 |one c=>have h':c.den ρ j=ZA v:=h;simp[V.cells,Ad,h',aak h']
 |agg cs=>simp only[V.den,Av]at h;obtain⟨vs,EP,rfl⟩:=h;simpa[V.cells,Value.cells]using EP
 |tup _=>cases hf
 |top=>cases hf
def C.solid:C->Bool
 |.undef=>ZC
 |_=>ZB
def C.solid_ok{ρ:Env}{j:J}{c:C}{v:Value}(h:c.den ρ j=ZA v)(hs:c.solid=ZB):v.oneCell'=ZB:=by
 cases c<;>simp only[C.den,Av]at h
 case ptr b o=>obtain⟨k,_,rfl⟩:=h;rfl
 case fp b o=>obtain⟨k,_,rfl⟩:=h;rfl
 case sl id=>obtain⟨k,_,rfl⟩:=h;rfl
 case ep id Bj e off=>simp only[cW,SV.elem,Av]at h;obtain⟨k,_,a,_,rfl⟩:=h;rfl
 case undef=>cases hs
 case clo=>obtain⟨x,y,_,_,rfl⟩:=gD h;rfl
 case mp id=>obtain⟨k,_,rfl⟩:=h;rfl
 case yld id=>obtain⟨k,_,rfl⟩:=h;rfl
 case wn id sz lo hi mx=>obtain⟨k,_,rfl⟩:=h;rfl
 case aw b o n sz lo hi mx=>obtain⟨k,_,rfl⟩:=h;rfl
 case pe b o n sz e off=>obtain⟨k,_,rfl⟩:=h;rfl
 case itp id mid=>obtain⟨_,_,_,_,_,rfl⟩:=xP (ρ:=ρ) h;rfl
 all_goals cases h;rfl
def ed(b:Nat):Nat->Nat->List (Nat×Nat)
 |_,0=>[]
 |o,n+1=>(b,o)::ed b (o+1) n
def eQ(b:Nat):Nat->List C->List (Nat×Nat×C)
 |_,[]=>[]
 |o,c::cs=>(b,o,c)::eQ b (o+1) cs
def eZ:List C->List C->Option E
 |[],[]=>ZA (.tt ZB)
 |.int k a::l,.int k' b::r=>if bB k k' then(eZ l r).map (ic (FX a b))else ZD
 |.bool a::l,.bool b::r=>(eZ l r).map (ic (Pq a b))
 |_,_=>ZD
def VY(n:Nat)(cs:List C)(e:E):E:=match e with
 |.tt b=>.tt b
 |e=>if Nat.blt n cs.length then .beq e (.tt ZB)else e
def aps(ρ:Env)(n:Nat)(cs:List C)(e:E):(VY n cs e).B ρ=e.B ρ:=by
 unfold VY;split
 .rfl
 .split
  .simp[E.B]
  .rfl
def gX:List C->E
 |.int _ e::l=>.cons e (gX l)
 |.bool e::l=>.j e (gX l)
 |_=>.nil
def VX(n:Nat)(cs ds:List C)(e:E):E:=match e with
 |.tt b=>.tt b
 |e=>if Nat.blt 20 cs.length then .leq (.lq .ln (gX cs)) (.lq .ln (gX ds))else VY n cs e
def ase(a b:Bool):(Ay a==Ay b)=(a==b):=by cases a<;>cases b<;>rfl
def lP{ρ:Env}:∀{cs ds:List C} {e:E},eZ cs ds=ZA e->((gX cs).L ρ==(gX ds).L ρ)=e.B ρ
 |[],[],e,h=>by cases h;rfl
 |.int k a::l,.int k' b::r,e,h=>by
   simp only[eZ]at h;split at h
   .rw[Av]at h;obtain⟨e',he,rfl⟩:=h;have:=lP (ρ:=ρ) he;simp only[gX,E.L,dQ,qL,<-this];rfl
   .exact ST
 |.bool a::l,.bool b::r,e,h=>by simp only[eZ,Av]at h;obtain⟨e',he,rfl⟩:=h;have:=lP (ρ:=ρ) he;simp only[gX,E.L,dQ,uV,<-this,<-ase];rfl
def apq(ρ:Env)(n:Nat){cs ds:List C}{e:E}(h:eZ cs ds=ZA e):(VX n cs ds e).B ρ=e.B ρ:=by
 unfold VX;split
 .rfl
 .split
  .have:=lP (ρ:=ρ) h;rw[<-this];simp only[E.B,E.R,ZM];exact Bool.and_true _
  .exact aps ρ n cs e
def vn(n:Nat)(cs ds:List C):Option E:=(eZ cs ds).map (VX n cs ds)
def Sy:List Value->List Value->Prop
 |[],[]=>True
 |.int k _::l,.int k' _::r=>k=k'/\Sy l r
 |.bool _::l,.bool _::r=>Sy l r
 |_,_=>False
def CB:List Value->List Value->Bool
 |.int _ a::l,.int _ b::r=>(a==b)&&CB l r
 |.bool a::l,.bool b::r=>(a==b)&&CB l r
 |_,_=>ZB
def dU:List C->List C->Bool
 |[],[]=>ZB
 |.int k _::l,.int k' _::r=>bB k k'&&dU l r
 |.bool _::l,.bool _::r=>dU l r
 |_,_=>ZC
def aD:List Value->List C->Prop
 |[],[]=>True
 |.int k x::l,.int k' _::r=>k=k'/\Aj k x=ZB/\aD l r
 |.bool _::l,.bool _::r=>aD l r
 |_,_=>False
def C.rng(vk:List VK):C->Bool
 |.int k e=>e.rng vk k
 |_=>ZB
def Pr(vk:List VK):List C->Rm->Bool
 |[],_=>ZB
 |.int k e::cs,m=>match e.rngW vk k m with
   |some m'=>Pr vk cs m'
   |none=>ZC
 |_::cs,m=>Pr vk cs m
def Fx(vk:List VK)(cs:List C)(_:List VK)(_:Nat):Bool:=Pr vk cs (Rm.ini vk)
def alf{vk:List VK}:∀(cs:List C) (m:Rm),m.ok vk->Pr vk cs m=ZB->cs.all (C.rng vk)=ZB:=by
 intro cs
 induction cs with
 |nil=>intros;rfl
 |cons c cs ih=>
   intro m hm h;rw[YV,ne];cases c with
   |int k e=>
     simp only[Pr]at h;split at h
     next m' hw=>obtain⟨h1,h2⟩:=zA hm hw;exact⟨h1,ih m' h2 h⟩
     .exact ST
   |_=>exact⟨rfl,ih m hm h⟩
def rngs_ok{vk:List VK}(cs:List C)(q:List VK)(n:Nat)(_:q=vk.drop n)(h:Fx vk cs q n=ZB):cs.all (C.rng vk)=ZB:=alf cs _ (Rm.ini_ok vk) h
def mQ{ρ:Env}{j:J}{vk:List VK}(hv:Vk ρ vk):∀{cs zs:List C} {vs:List Value},dU cs zs=ZB->cs.all (C.rng vk)=ZB->Ad ρ j cs=ZA vs->aD vs zs
 |[],[],vs,_,_,h=>by cases h;trivial
 |.int k a::l,.int k' b::r,vs,hk,hr,h=>by
   simp only[dU,ne]at hk;simp only[YV,ne]at hr;simp only[Ad,C.den]at h;cases hl:Ad ρ j l with
   |none=>rw[hl]at h;cases h
   |some us=>rw[hl]at h;cases h;exact⟨av hk.1,E.rng_ok hv a hr.1,mQ hv hk.2 hr.2 hl⟩
 |.bool a::l,.bool b::r,vs,hk,hr,h=>by
   simp only[dU]at hk;simp only[YV,ne]at hr;simp only[Ad,C.den]at h;cases hl:Ad ρ j l with
   |none=>rw[hl]at h;cases h
   |some us=>rw[hl]at h;cases h;exact mQ (cs:=l) (zs:=r) hv hk hr.2 hl
def ah{e:E}{r:List C}(h:aD vs (.int k e::r)):∃x l,vs=.int k x::l/\Aj k x=ZB/\aD l r:=by
 match vs,h with
 |.int k' x::l,h=>exact⟨x,l,by rw[h.1],by rw[<-h.1];exact h.2.1,h.2.2⟩
def dR{e:E}{r:List C}(h:aD vs (.bool e::r)):∃x l,vs=.bool x::l/\aD l r:=by
 match vs,h with
 |.bool x::l,h=>exact⟨x,l,rfl,h⟩
def bz(h:aD vs []):vs=[]:=by
 cases vs with
 |nil=>rfl
 |cons v l=>cases v<;>exact h.elim
def lK{ρ:Env}{j:J}:∀{cs ds:List C} {e:E},eZ cs ds=ZA e->∃vs us,Ad ρ j cs=ZA vs/\Ad ρ j ds=ZA us/\Sy vs us/\CB vs us=e.B ρ
 |[],[],e,h=>by cases h;exact⟨[],[],rfl,rfl,trivial,rfl⟩
 |.int k a::l,.int k' b::r,e,h=>by
   simp only[eZ]at h;split at h
   next hk=>rw[Av]at h;obtain⟨e',he,rfl⟩:=h;obtain⟨vs,us,h1,h2,h3,h4⟩:=lK (ρ:=ρ) (j:=j) he;refine⟨.int k (a.I ρ)::vs,.int k' (b.I ρ)::us,by simp[Ad,C.den,h1],by simp[Ad,C.den,h2],⟨av hk,h3⟩,?_⟩;simp[CB,h4,dQ,qL]
   .exact ST
 |.bool a::l,.bool b::r,e,h=>by simp only[eZ,Av]at h;obtain⟨e',he,rfl⟩:=h;obtain⟨vs,us,h1,h2,h3,h4⟩:=lK (ρ:=ρ) (j:=j) he;refine⟨.bool (a.B ρ)::vs,.bool (b.B ρ)::us,by simp[Ad,C.den,h1],by simp[Ad,C.den,h2],h3,?_⟩;simp[CB,h4,dQ,uV]
def ad4{ρ:Env}{j:J}{n:Nat}{cs ds:List C}{e:E}(h:vn n cs ds=ZA e):∃vs us,Ad ρ j cs=ZA vs/\Ad ρ j ds=ZA us/\Sy vs us/\CB vs us=e.B ρ:=by unfold vn at h;rw[Av]at h;obtain⟨e',he,rfl⟩:=h;obtain⟨vs,us,h1,h2,h3,h4⟩:=lK (ρ:=ρ) (j:=j) he;exact⟨vs,us,h1,h2,h3,by rw[apq ρ n he];exact h4⟩
def kS:E->Nat->Option E
 |.lq a r,i=>match bY a with
   |.p z=>if fy z i then ZA r else kS a i
   |_=>kS a i
 |.lcat a b,i=>match bY a with
   |.p z=>if decide (z<=(i:Int))then kS b (i-z.toNat)else kS a i
   |_=>kS a i
 |_,_=>ZD
def il:E->Nat->Option E
 |.cons a _,0=>ZA a
 |.cons _ t,c+1=>il t c
 |.j _ t,c+1=>il t c
 |_,_=>ZD
def lf:E->Nat->Option E
 |.j b _,0=>ZA b
 |.cons _ t,c+1=>lf t c
 |.j _ t,c+1=>lf t c
 |_,_=>ZD
def mN(l e:E):Option E:=match e with
 |.p (.ofNat i)=>kS l i
 |_=>ZD
def rO(l e:E)(c:Nat):E:=match(mN l e).bind (il · c)with
 |some x=>x
 |none=>.get l e c
def qK(l e:E)(c:Nat):E:=match(mN l e).bind (lf · c)with
 |some x=>x
 |none=>.getb l e c
def xf(ρ:Env):∀(l:E) (i:Nat) (r:E),kS l i=ZA r->(l.R ρ)[i]? =ZA (r.L ρ):=by
 intro l
 induction l<;>intro i r h<;>simp only[kS]at h<;>first|cases h|skip
 case lq a r0 ih _=>
  have left:kS a i=ZA r->((E.lq a r0).R ρ)[i]? =ZA (r.L ρ):=fun h=>by have h1:=ih i r h;have Ap:=(bX.1 h1).1;simp only[E.R];rw[AW Ap];exact h1
  split at h
  .rename_i z hz;split at h
   next Ie=>cases h;have h1:=bO ρ a;rw[hz,cF Ie]at h1;simp only[E.I]at h1;have h2:(a.R ρ).length=i:=Fn;simp only[E.R];rw[Bc Fn,h2];simp
   .exact left h
  .exact left h
 case lcat a b iha ihb=>
  have left:kS a i=ZA r->((E.lcat a b).R ρ)[i]? =ZA (r.L ρ):=fun h=>by have h1:=iha i r h;have Ap:=(bX.1 h1).1;simp only[E.R];rw[AW Ap];exact h1
  split at h
  .rename_i z hz;split at h
   next Ie=>have Ie:=Ae Ie;have h1:=bO ρ a;rw[hz]at h1;simp only[E.I]at h1;have h2:=ihb _ r h;simp only[E.R];rw[Bc Fn,show i-(a.R ρ).length=i-z.toNat by omega];exact h2
   .exact left h
  .exact left h
def aeq(ρ:Env):∀(r:E) (c:Nat) (x:E),il r c=ZA x->(r.L ρ).getD c 0=x.I ρ:=by
 intro r
 induction r<;>intro c x h<;>cases c<;>simp only[il]at h<;>first|cases h|skip
 .rfl
 .exact XR
 .exact XR
def ajo(ρ:Env):∀(r:E) (c:Nat) (x:E),lf r c=ZA x->(r.L ρ).getD c 0=Ay (x.B ρ):=by
 intro r
 induction r<;>intro c x h<;>cases c<;>simp only[lf]at h<;>first|cases h|skip
 .exact XR
 .rfl
 .exact XR
def xF{ρ:Env}{l e r:E}(h:mN l e=ZA r)(c:Nat):gt (l.R ρ) (e.I ρ) c=(r.L ρ).getD c 0:=by
 unfold mN at h;split at h
 next i=>have h1:=xf ρ l i r h;show((l.R ρ).getD i []).getD c 0=_;rw[show(l.R ρ).getD i []=r.L ρ by rw[bh,h1];rfl]
 .exact ST
def zK(ρ:Env)(l e:E)(c:Nat):(rO l e c).I ρ=gt (l.R ρ) (e.I ρ) c:=by
 unfold rO;split
 next x hx=>rw[cW]at hx;obtain⟨r,h1,h2⟩:=hx;rw[xF h1,aeq ρ r c x h2]
 .rfl
def uT(ρ:Env)(l e:E)(c:Nat):(qK l e c).B ρ=(gt (l.R ρ) (e.I ρ) c==1):=by
 unfold qK;split
 next x hx=>rw[cW]at hx;obtain⟨r,h1,h2⟩:=hx;rw[xF h1,ajo ρ r c x h2];cases x.B ρ<;>rfl
 .rfl
def Hu(l e:E)(c:Nat):CE->C
 |some k=>.int k (rO l e c)
 |none=>.bool (qK l e c)
def eK(l e:E):Nat->List CE->List C
 |_,[]=>[]
 |c,k::ks=>Hu l e c k::eK l e (c+1) ks
def Ou:Nat->E->Option E
 |0,t=>ZA t
 |c+1,.cons _ t=>Ou c t
 |c+1,.j _ t=>Ou c t
 |_,_=>ZD
def tv:List CE->E->Option (List C)
 |[],_=>ZA []
 |some k::ks,.cons a t=>(tv ks t).map (.int k a::·)
 |none::ks,.j a t=>(tv ks t).map (.bool a::·)
 |_,_=>ZD
def RH(l e:E)(c:Nat)(ks:List CE):List C:=match((mN l e).bind (Ou c)).bind (tv ks)with
 |some cs=>cs
 |none=>eK l e c ks
def lL:∀{c:Nat} {row t:E},Ou c row=ZA t->(∀m,il row (c+m)=il t m)/\∀m,lf row (c+m)=lf t m
 |0,row,t,h=>by cases h;exact⟨fun m=>by rw[be],fun m=>by rw[be]⟩
 |c+1,.cons _ u,t,h=>by obtain⟨h1,h2⟩:=lL (c:=c) (row:=u) h;exact⟨fun m=>by rw[show c+1+m=(c+m)+1 by omega];exact h1 m,fun m=>by rw[show c+1+m=(c+m)+1 by omega];exact h2 m⟩
 |c+1,.j _ u,t,h=>by obtain⟨h1,h2⟩:=lL (c:=c) (row:=u) h;exact⟨fun m=>by rw[show c+1+m=(c+m)+1 by omega];exact h1 m,fun m=>by rw[show c+1+m=(c+m)+1 by omega];exact h2 m⟩
def rA{l e row:E}(hl:mN l e=ZA row):∀(ks:List CE) (c:Nat) (t:E) (cs:List C),(∀m,il row (c+m)=il t m)->(∀m,lf row (c+m)=lf t m)->tv ks t=ZA cs->cs=eK l e c ks
 |[],c,t,cs,_,_,h=>by cases h;rfl
 |some k::ks,c,t,cs,h1,h2,h=>by
   cases t<;>simp only[tv]at h<;>first|cases h|skip
   rename_i a t;rw[Av]at h;obtain⟨Gc,h3,rfl⟩:=h;have:=rA hl ks (c+1) t Gc (fun m=>by rw[show c+1+m=c+(m+1) by omega,h1];rfl) (fun m=>by rw[show c+1+m=c+(m+1) by omega,h2];rfl) h3;have h0:il row c=ZA a:=h1 0;simp only[eK,Hu,rO,hl,Option.bind_some,h0,this]
 |none::ks,c,t,cs,h1,h2,h=>by
   cases t<;>simp only[tv]at h<;>first|cases h|skip
   rename_i a t;rw[Av]at h;obtain⟨Gc,h3,rfl⟩:=h;have:=rA hl ks (c+1) t Gc (fun m=>by rw[show c+1+m=c+(m+1) by omega,h1];rfl) (fun m=>by rw[show c+1+m=c+(m+1) by omega,h2];rfl) h3;have h0:lf row c=ZA a:=h2 0;simp only[eK,Hu,qK,hl,Option.bind_some,h0,this]
def ahj(l e:E)(c:Nat)(ks:List CE):RH l e c ks=eK l e c ks:=by
 unfold RH;split
 next cs h=>simp only[cW]at h;obtain⟨t,⟨row,h1,h2⟩,h3⟩:=h;obtain⟨h4,h5⟩:=lL h2;exact rA h1 ks c t cs h4 h5 h3
 .rfl
def gj(vk:List VK)(l e:E):Nat->List CE->List C->Option E
 |_,_,[]=>ZA l
 |c,ZA k::ks,.int k' x::cs=>if bB k' k&&x.rng vk k then gj vk (.lset l e c x) e (c+1) ks cs else ZD
 |c,ZD::ks,.bool x::cs=>gj vk (.lsetb l e c x) e (c+1) ks cs
 |_,_,_=>ZD
def Ow:List CE->List C->Option E
 |[],[]=>ZA .nil
 |some k::ks,.int k' x::cs=>if bB k' k then(Ow ks cs).map (.cons x)else ZD
 |none::ks,.bool x::cs=>(Ow ks cs).map (.j x)
 |_,_=>ZD
def D3(vk:List VK)(ks:List CE)(cs:List C):Option E:=bif Fx vk cs vk 0 then Ow ks cs else ZD
def SU(r l:E):E:=match l with
 |.ln=>.lq .ln r
 |l=>.lcat (.lq .ln r) l
def ajh(ρ:Env)(r l:E):(SU r l).R ρ=r.L ρ::l.R ρ:=by unfold SU;split<;>simp[E.R]
def Ov(vk:List VK)(ks:List CE):Nat->List C->Option E
 |0,[]=>ZA .ln
 |n+1,cs=>match D3 vk ks (cs.take ks.length),Ov vk ks n (cs.drop ks.length)with
   |some r,ZA l=>ZA (SU r l)
   |_,_=>ZD
 |0,_::_=>ZD
def Dc:List C->Option (List CE)
 |[]=>ZA []
 |.int k _::cs=>(Dc cs).map (ZA k::·)
 |.bool _::cs=>(Dc cs).map (ZD::·)
 |_=>ZD
def fv:CE->Int->Value
 |some k,x=>.int k x
 |none,x=>.bool (x==1)
def Ax:List CE->List Int->List Value
 |k::ks,x::xs=>fv k x::Ax ks xs
 |_,_=>[]
def flat(ks:List CE)(L:LL):List Value:=L.flatMap (Ax ks)
def RdRow(w:World)(Bj:Nat)(s:SV)(xs:List Value):Prop:=xs.length=s.n*Bj/\s.n<=s.c/\s.c<=maxLen/\(s.a=ZD->s.n=0/\s.c=0)/\∀a,s.a=ZA a->∀i u,xs[i]? =ZA u->w.cell? (a.add i)=ZA u
def SV.blk(s:SV)(o:Bool):Option Nat:=if(o ||!ZI s.c 0)=ZB then s.v.ownBlock else ZD
def ay{s:SV}{k:Nat}(h:s.blk o=ZA k):s.v.ownBlock=ZA k:=by
 unfold SV.blk at h;split at h
 .exact h
 .exact ST
def nj{s:SV}{k:Nat}(ho:o=ZB)(h:s.v.ownBlock=ZA k):s.blk o=ZA k:=by rw[ho];exact h
def bI{s:SV}{k:Nat}(h:s.blk ZC=ZA k):s.blk o=ZA k:=by
 cases o with
 |false=>exact h
 |true=>exact ay h
def nm{s:SV}{k:Nat}(hc:s.c≠0)(h:s.v.ownBlock=ZA k):s.blk ZC=ZA k:=by
 unfold SV.blk;have:ZI s.c 0=ZC:=by cases hb:ZI s.c 0 with
  |false=>rfl
  |true=>exact ak (Ah hb) hc
 simpa[this]using h
def jr(vk:List VK)(rw:Nat->Option RowOb)(ks:List CE)(ty:Nat):C->Option E
 |.sl id=>match rw id with
   |some r=>if bZ r.ks ks&&(ZI r.ty ty&&r.l.lok vk ks)then ZA r.l else ZD
   |none=>ZD
 |.nsl=>ZA .ln
 |_=>ZD
def zB:List CE->List Int->E
 |some _::ks,x::xs=>.cons (.p x) (zB ks xs)
 |none::ks,x::xs=>.j (.tt (fy x 1)) (zB ks xs)
 |_,_=>.nil
def Mh(ks:List CE):E->LL->E
 |e,[]=>e
 |e,r::l=>Mh ks (.lq e (zB ks r)) l
def Q4(ks:List CE):LL->E
 |[]=>.ln
 |r::l=>SU (zB ks r) (Q4 ks l)
def In(ks:List CE)(L:LL):Bool:=L.all (aq ks)&&(decide (L.length<=maxLen)&&(decide (0<ks.length) &&!bZ ks CM))
def RG{ρ:Env}:∀{ks:List CE} {xs:List Int},aq ks xs=ZB->(zB ks xs).L ρ=xs
 |[],[],_=>rfl
 |some k::ks,x::xs,h=>by simp only[aq,ne]at h;simp only[zB,E.L,E.I,RG h.2]
 |none::ks,x::xs,h=>by simp only[aq,ne,CV,eu,cb]at h;simp only[zB,E.L,E.B,RG h.2];rcases h.1 with rfl|rfl<;>rfl
def as6{ρ:Env}{ks:List CE}:∀{L:LL} {e:E},L.all (aq ks)=ZB->(Mh ks e L).R ρ=e.R ρ++L
 |[],e,_=>by simp[Mh]
 |r::l,e,h=>by simp only[YV,ne]at h;rw[Mh,as6 h.2];simp only[E.R,RG h.1,List.append_assoc,List.singleton_append]
def as9{ρ:Env}{ks:List CE}:∀{L:LL},L.all (aq ks)=ZB->(Q4 ks L).R ρ=L
 |[],_=>rfl
 |r::l,h=>by simp only[YV,ne]at h;rw[Q4,ajh,as9 h.2,RG h.1]
def zC{ρ:Env}{ks:List CE}{L:LL}(h:In ks L=ZB):(Mh ks .ln L).R ρ=L/\RowsIn ks L/\0<ks.length/\CO ks=.sl:=by
 simp only[In,ne,ax,Bool.not_eq_true']at h;refine⟨by rw[as6 h.1];rfl,⟨fun r hr=>Co.1 h.1 r hr,h.2.1⟩,h.2.2.1,?_⟩;rcases cK ks with⟨h1,_⟩|⟨_,h1⟩
 .rw[h1]at h;exact ak h.2.2.2 Os
 .exact h1
def G8(vk:List VK)(rw:Nat->Option RowOb):CK->C->E->Option E
 |.int k,.int k' e,t=>if bB k k'&&e.rng vk k then ZA (.cons e t)else ZD
 |.bool,.bool e,t=>ZA (.j e t)
 |.fn g,.fn g',t=>if ZI g g' then ZA t else ZD
 |.p k z,.int k' (.p z'),t=>if bB k k'&&fy z z' then ZA t else ZD
 |.sl ks ty,c,t=>(jr vk rw ks ty c).map fun l=>.N l t
 |.nf,.nf,t=>ZA t
 |.any,_,t=>ZA t
 |.rl ks ty L,.sl id,t=>match rw id with
   |some r=>if(bZ r.ks ks&&ZI r.ty ty)&&((r.l.same (Mh ks .ln L)||r.l.same (Q4 ks L))&&In ks L)then ZA t else ZD
   |none=>ZD
 |_,_,_=>ZD
def ya(vk:List VK)(rw:Nat->Option RowOb):List CK->List C->E->Option E
 |[],[],t=>ZA t
 |k::ks,c::cs,t=>(ya vk rw ks cs t).bind (G8 vk rw k c)
 |_,_,_=>ZD
def Wl(vk:List VK)(rw:Nat->Option RowOb):CK->C->E->Option E
 |.int k,.int k' e,t=>if bB k k' then ZA (.cons e t)else ZD
 |.bool,.bool e,t=>ZA (.j e t)
 |.fn g,.fn g',t=>if ZI g g' then ZA t else ZD
 |.p k z,.int k' (.p z'),t=>if bB k k'&&fy z z' then ZA t else ZD
 |.sl ks ty,c,t=>(jr vk rw ks ty c).map fun l=>.N l t
 |.nf,.nf,t=>ZA t
 |.any,_,t=>ZA t
 |.rl ks ty L,.sl id,t=>match rw id with
   |some r=>if(bZ r.ks ks&&ZI r.ty ty)&&((r.l.same (Mh ks .ln L)||r.l.same (Q4 ks L))&&In ks L)then ZA t else ZD
   |none=>ZD
 |_,_,_=>ZD
def amk{vk:List VK}{rw:Nat->Option RowOb}{k:CK}{c:C}{t e:E}(hc:c.rng vk=ZB)(h:Wl vk rw k c t=ZA e):G8 vk rw k c t=ZA e:=by
 unfold Wl at h;split at h
 .rename_i k1 k2 x;split at h
  next h1=>obtain rfl:=av h1;have h2:x.rng vk k1=ZB:=hc;simp[G8,h1,h2];exact YL h
  .exact ST
 all_goals first|exact h|cases h
def SR(vk:List VK)(rw:Nat->Option RowOb):List CK->List C->E->Option E
 |[],[],t=>ZA t
 |k::ks,c::cs,t=>(SR vk rw ks cs t).bind (Wl vk rw k c)
 |_,_,_=>ZD
def acQ{vk:List VK}{rw:Nat->Option RowOb}:∀{ks:List CK} {cs:List C} {t e:E},cs.all (C.rng vk)=ZB->SR vk rw ks cs t=ZA e->ya vk rw ks cs t=ZA e
 |[],[],_,_,_,h=>h
 |k::ks,c::cs,t,e,hr,h=>by simp only[YV,ne]at hr;simp only[SR,cW]at h;obtain⟨e1,h1,h2⟩:=h;simp only[ya,cW];exact⟨e1,acQ hr.2 h1,amk hr.1 h2⟩
def HQ(vk:List VK)(rw:Nat->Option RowOb)(ks:List CK)(cs:List C)(t:E):Option E:=bif Fx vk cs vk 0 then SR vk rw ks cs t else ZD
def xZ{vk:List VK}{rw:Nat->Option RowOb}{ks:List CK}{cs:List C}{t e:E}(h:HQ vk rw ks cs t=ZA e):ya vk rw ks cs t=ZA e:=by
 unfold HQ at h;cases hr:Fx vk cs vk 0 with
 |false=>rw[hr]at h;cases h
 |true=>rw[hr]at h;exact acQ (rngs_ok cs vk 0 rfl hr) h
def PI(vk:List VK)(vw:Vw)(ks:List CE)(id z:Nat)(e t:E):Option E:=match vw.sw id with
 |some r=>if bZ r.ks ks&&ZI z ks.length then(D3 vk ks (eK r.l e 0 ks)).map fun x=>.N (.lq .ln x) t else ZD
 |none=>ZD
def MN(vk:List VK)(vw:Vw):Sh->V->E->Option E
 |.agg ks,.agg cs,t=>HQ vk vw.tw ks cs t
 |.one (.el ks _),.one (.ep id z e 0),t=>PI vk vw ks id z e t
 |.one k,.one c,t=>G8 vk vw.tw k c t
 |.ptr ks,.one (.ptr b 0),t=>if 0<ks.length then(vw.row b 0 ks.length).bind fun cs=>HQ vk vw.tw ks cs t else ZD
 |.ptr ks,.one (.fp b 0),t=>(vw.fb b).bind fun cs=>if cs.all C.solid then HQ vk vw.tw ks cs t else ZD
 |_,_,_=>ZD
def HP(vk:List VK)(vw:Vw):List Sh->List V->Option E
 |[],[]=>ZA .nil
 |s::ss,v::vs=>(HP vk vw ss vs).bind (MN vk vw s v)
 |_,_=>ZD
def fZ:List C->List Nat
 |[]=>[]
 |.sl id::cs=>id::fZ cs
 |.ep id _ _ _::cs=>id::fZ cs
 |_::cs=>fZ cs
def iG(vw:Vw):List Sh->List V->List Nat
 |.ptr ks::ss,.one (.ptr b 0)::vs=>(match vw.row b 0 ks.length with|some cs=>fZ cs|none=>[])++iG vw ss vs
 |.ptr _::ss,.one (.fp b 0)::vs=>(match vw.fb b with|some cs=>fZ cs|none=>[])++iG vw ss vs
 |_::ss,v::vs=>fZ v.cells++iG vw ss vs
 |_,_=>[]
def vB:List Sh->List V->List (Nat×Nat)
 |.ptr ks::ss,.one (.ptr b 0)::vs=>ed b 0 ks.length++vB ss vs
 |_::ss,_::vs=>vB ss vs
 |_,_=>[]
def td(row:List Int):List Value:=((row.drop 3).take (row.getD 2 0).toNat).map fun x=>.int .u64 x
def eG(row:List Int)(x:SV):List Value:=[.int .i64 (row.getD 0 0),x.v,.int .u64 (row.getD 1 0)]
def fj:LL->List SV->List Value
 |r::L,x::xs=>eG r x++fj L xs
 |_,_=>[]
def B6:Obj->Bool
 |.cells _ _ _=>ZB
 |_=>ZC
structure EvIn(w:World)(row:List Int)(x:SV):Prop where
 n:(x.n:Int)=row.getD 2 0
 most:x.n<=5
 rest:(row.drop 3).drop x.n=YK (5-x.n) 0
 rd:RdRow w 1 x (td row)
 blk:∀k,x.blk ZC=ZA k->∃o,w.heap[k]? =ZA o/\B6 o=ZB
def TRow(w:World)(ks:List CE)(s:SV)(L:LL):Prop:=
 match CO ks with
 |.ev=>∃ins:List SV,ins.length=L.length/\RdRow w 3 s (fj L ins)/\∀(i:Nat) row x,L[i]? =ZA row->ins[i]? =ZA x->EvIn w row x
 |_=>RdRow w ks.length s (flat ks L)
def yf(w:World)(k:CK)(xs:List Dt)(v:Value)(r:List Dt):Prop:=
 match k with
 |.int k=>∃x,xs=.z x::r/\v=.int k x/\Aj k x=ZB
 |.bool=>∃b,xs=.z (Ay b)::r/\v=.bool b
 |.fn g=>xs=r/\v=.func (.func g) #[] #[]
 |.p k z=>xs=r/\v=.int k z
 |.sl ks _=>∃L s,xs=.l L::r/\v=s.v/\s.n=L.length/\TRow w ks s L/\RowsIn ks L/\∀k,s.blk ZC=ZA k->k<w.heap.size
 |.nf=>xs=r/\v=.nilFunc
 |.any=>xs=r
 |.el ks _=>∃row p,xs=.l [row]::r/\v=.pointer (ZA p)/\aq ks row=ZB/\p.block<w.heap.size/\∀(c:Nat) u,(flat ks [row])[c]? =ZA u->w.cell? (p.add c)=ZA u
 |.rl ks _ L=>xs=r/\In ks L=ZB/\∃s,v=s.v/\s.n=L.length/\TRow w ks s L/\∀k,s.blk ZC=ZA k->k<w.heap.size
def lc(w:World):List CK->List Dt->List Value->List Dt->Prop
 |[],xs,vs,r=>xs=r/\vs=[]
 |k::ks,xs,vs,r=>∃v us r',vs=v::us/\yf w k xs v r'/\lc w ks r' us r
def nN(w:World):List Sh->List Dt->List Value->Prop
 |[],xs,vals=>xs=[]/\vals=[]
 |.one c::ss,xs,vals=>∃v vs r,vals=v::vs/\yf w c xs v r/\nN w ss r vs
 |.agg cs::ss,xs,vals=>∃us vs r,vals=.agg us.toArray::vs/\lc w cs xs us r/\nN w ss r vs
 |.ptr cs::ss,xs,vals=>∃kk us vs r,vals=.pointer (ZA ⟨kk,0,ZD⟩)::vs/\lc w cs xs us r/\kk<w.heap.size/\(∀o u,us[o]? =ZA u->w.cell? ⟨kk,o,ZD⟩=ZA u)/\nN w ss r vs
def KX:CK->List Dt->List Dt->Prop
 |.int k,xs,r=>∃x,xs=.z x::r/\Aj k x=ZB
 |.bool,xs,r=>∃b,xs=.z (Ay b)::r
 |.sl ks _,xs,r=>∃L,xs=.l L::r/\∀x∈L,aq ks x=ZB
 |.rl ks _ L,xs,r=>xs=r/\In ks L=ZB
 |.el ks _,xs,r=>∃row,xs=.l [row]::r/\aq ks row=ZB
 |_,xs,r=>xs=r
def OL:List CK->List Dt->List Dt->Prop
 |[],xs,r=>xs=r
 |k::ks,xs,r=>∃r',KX k xs r'/\OL ks r' r
def Py:List Sh->List Dt->Prop
 |[],xs=>xs=[]
 |s::ss,xs=>∃r,OL s.cks xs r/\Py ss r
structure OwnRow(w:World)(base:Nat)(ty:Nat)(ks:List CE)(s:SV)(L:LL):Prop where
 n:s.n=L.length
 own:w.ownsRow base ty ks.length s.v s.n (flat ks L)
 rows:RowsIn ks L
 pos:0<ks.length
def aL(v0:Nat):Nat->Nat->List CK->List C
 |_,_,[]=>[]
 |n,id,.int k::ks=>.int k (.w (v0+n))::aL v0 (n+1) id ks
 |n,id,.bool::ks=>.bool (.s (v0+n))::aL v0 (n+1) id ks
 |n,id,.fn g::ks=>.fn g::aL v0 (n+1) id ks
 |n,id,.p _ _::ks=>.undef::aL v0 (n+1) id ks
 |n,id,.sl _ _::ks=>.sl id::aL v0 (n+1) (id+1) ks
 |n,id,.nf::ks=>.nf::aL v0 (n+1) id ks
 |n,id,.any::ks=>.undef::aL v0 (n+1) id ks
 |n,id,.rl _ _ _::ks=>.undef::aL v0 (n+1) id ks
 |n,id,.el _ _::ks=>.undef::aL v0 (n+1) id ks
def CK.isSl:CK->Bool
 |.sl _ _=>ZB
 |_=>ZC
def bM(v0:Nat):Nat->Nat->List Sh->List (Bool×List C)
 |_,_,[]=>[]
 |n,id,.one k::l=>(ZC,aL v0 n id [k])::bM v0 (n+1) (if k.isSl then id+1 else id) l
 |n,id,.agg ks::l=>(ZB,aL v0 n id ks)::bM v0 (n+ks.length) (id+(ks.filter CK.isSl).length) l
 |n,id,.ptr ks::l=>(ZB,[.undef])::bM v0 (n+ks.length) id l
def gN(res:List Sh)(tup:Bool)(v0 nid:Nat):V:=
 if tup then .tup (bM v0 0 nid res)else
 match bM v0 0 nid res with
 |[(ZB,cs)]=>.agg cs
 |[(ZC,[c])]=>.one c
 |_=>.one .undef
def NY(s:Sm)(v0 nid:Nat):V:=gN s.res s.tup v0 nid
def bE(v0:Nat):Nat->List CK->List RowOb
 |_,[]=>[]
 |n,.sl ks ty::l=>⟨ks,ty,.g (v0+n),ZB,CO ks⟩::bE v0 (n+1) l
 |n,_::l=>bE v0 (n+1) l
section
variable {ρ:Env}{j:J}{vk:List VK}
end
def ib:List CK->List Dt->Prop
 |[],_=>True
 |.int k::ks,.z x::ds=>Aj k x=ZB/\ib ks ds
 |.int _::_,_=>False
 |.sl ks0 _::ks,.l L::ds=>RowsIn ks0 L/\ib ks ds
 |.sl _ _::_,_=>False
 |_::ks,_::ds=>ib ks ds
 |_::_,[]=>False
structure TIok(P:Program)(t:Nat)(i:TI):Prop where
 agg:∀w,(isAgg t).run P w=.ok i.agg w
 size:∀w,(sizeOf t).run P w=.ok i.size w
 zero:∃z,(∀w,(zeroValue t).run P w=.ok z w)/\∀(ρ:Env) j,Ad ρ j i.zero=ZA z.cells.toList
 fieldAt:∀f off ft,i.fields[f]? =ZA (off,ft)->∀w (a:Addr),(Instr.fieldAt t (.pointer (ZA a)) f).run P w=.ok (.pointer (ZA (a.add off))) w
 field:∀f off ft,i.fields[f]? =ZA (off,ft)->∀w cs,(Instr.field t (.agg cs) f).run P w=(part ft cs off).run P w
 arr:∀n e,i.arr=ZA (n,e)->P.underlying t=ZA (.array n e)
 str:i.agg=ZB->i.arr=ZD->∃fs,P.underlying t=ZA (.struct fs)/\fs.toList.map (fun f=>(f.offset,f.type))=i.fields
 ik:∀k,i.ik=ZA k->P.underlying t=ZA (.int k)
 und:∃d,P.underlying t=ZA d
 eq:i.eqok=ZB->∀vs us,aD vs i.zero->aD us i.zero->∀w,(Op.equal t (.agg vs.toArray) (.agg us.toArray)).run P w=.ok (CB vs us) w
 grd:i.eqok=ZB->P.eqGuardType P.depth t=ZC
 isb:i.isb=ZB->P.underlying t=ZA .bool
 sle:∀e,i.sle=ZA e->P.underlying t=ZA (.slice e)
 fnt:i.fnt=ZB->∀f a b w,(Op.equal t (.func (.func f) a b) .nilFunc).run P w=.ok ZC w/\(Op.equal t .nilFunc .nilFunc).run P w=.ok ZB w
 mapt:∀k e,i.mapt=ZA (k,e)->P.underlying t=ZA (.map k e)
 ptr:i.kd=1->∃e,P.underlying t=ZA (.pointer e)
 stg:i.kd=2->P.underlying t=ZA .string
 key:i.keyok=ZB->∀vs,aD vs i.zero->∀b w,(Instr.checkKey b 10000 t (.agg vs.toArray)).run P w=.ok () w
 zsh:∀z,(∀w,(zeroValue t).run P w=.ok z w)->(i.agg=ZB->z=.agg z.cells)/\(i.agg=ZC->z.cells = #[z])
 info:∃Cv z,P.info? t=ZA Cv/\Cv.size=i.size/\Cv.bytes=i.bytes/\Cv.zero=ZA z/\z.cells.toList.length=i.size/\∀(ρ:Env) j,Ad ρ j i.zero=ZA z.cells.toList
def sV(vk:List VK)(vw:Vw)(f:Nat)(args:List V):List Sm->Option (Sm×E)
 |[]=>ZD
 |s::l=>if ZI s.f f then(match HP vk vw s.args args with|some e=>ZA (s,e)|none=>sV vk vw f args l)else sV vk vw f args l
def qY{vk:List VK}{vw:Vw}{f:Nat}{args:List V}{s:Sm}{e:E}:∀{l:List Sm},sV vk vw f args l=ZA (s,e)->s∈l/\s.f=f/\HP vk vw s.args args=ZA e
 |x::l,h=>by
   simp only[sV]at h;split at h
   .rename_i hf;split at h
    next e' he=>cases h;exact⟨bG,Ah hf,he⟩
    .have:=qY h;exact⟨cm _ this.1,this.2⟩
   .have:=qY h;exact⟨cm _ this.1,this.2⟩
def vl(key:Nat)(e:E):List (Nat×E×Nat)->Option Nat
 |[]=>ZD
 |(m,x,v0)::l=>if ZI m key&&x.same e then ZA v0 else vl key e l
def sX{key:Nat}{e:E}{v0:Nat}:∀{l:List (Nat×E×Nat)},vl key e l=ZA v0->(key,e,v0)∈l
 |(m,x,u)::l,h=>by
   simp only[vl]at h;split at h
   next hm=>simp only[ne]at hm;cases h;rw[Ah hm.1,E.same_eq hm.2];exact bG
   .exact cm _ (sX h)
def yg:CK->VK
 |.int k=>.int k
 |.sl ks _=>.list ks
 |_=>.bool
def DM(ev:Operand->Option V):List Operand->Option (List V)
 |[]=>ZA []
 |x::l=>match ev x,DM ev l with
   |some v,ZA vs=>ZA (v::vs)
   |_,_=>ZD
def G6(ev:Operand->Option V):List Operand->Option (List (Option (Bool×Nat×Nat)))
 |[]=>ZA []
 |x::l=>match ev x,G6 ev l with
   |some (.one (.ptr b o)),ZA vs=>ZA (ZA (ZB,b,o)::vs)
   |some (.one (.fp b o)),ZA vs=>ZA (ZA (ZC,b,o)::vs)
   |some (.one .np),ZA vs=>ZA (ZD::vs)
   |_,_=>ZD
def UM(cx:Cx)(vw:Vw)(g:Nat)(args:List V)(kw:Kw)(k:Eff->Kw->Tr):Tr:=
 match sV kw.vk vw g args cx.sm with
 |none=>.stuck (100000+g)
 |some (s,e)=>match s.inp with
   |some (ks,ty)=>match args with
     |[.one (.sl id)]=>match vw.sw id with
       |some r=>if r.own&&(bZ r.ks ks&&ZI r.ty ty)then
        .call s.key [.sl ks ty] (.N r.l .nil) kw.vk.length (k {val:=.tup [],rr:=[id],re:=.set id {r with l:=.g kw.vk.length}} {kw with vk:=kw.vk++[.list ks]})
         else .stuck 170
       |none=>.stuck 171
     |_=>.stuck 172
   |none=>match vl s.key e kw.log with
   |some v0=>k {val:=NY s v0 vw.nid,rd:=vB s.args args,rr:=iG vw s.args args,re:=.mk (bE v0 0 s.ks)} kw
   |none=>.call s.key s.ks e kw.vk.length (k {val:=NY s kw.vk.length vw.nid,rd:=vB s.args args,rr:=iG vw s.args args,re:=.mk (bE kw.vk.length 0 s.ks)} {kw with log:=(s.key,e,kw.vk.length)::kw.log,vk:=kw.vk++s.ks.map yg})
def aoe(cx:Cx)(vw:Vw)(g:Nat)(args:List V)(kw:Kw)(k:Eff->Kw->Tr):Tr:=match aj (800000+g) cx.hints with
 |none=>UM cx vw g args kw k
 |some _=>.stuck 300
def Mf(f:E->E->E)(k0:IntKind):E->List V->Option E
 |e,[]=>ZA e
 |e,.one (.int k x)::l=>if bB k k0 then Mf f k0 (f e x) l else ZD
 |_,_=>ZD
def VH(cx:Cx):Bool:=(aj 999999 cx.hints).isSome
def asB(cx:Cx):Nat:=if VH cx then 3 else 12
def MG(cx:Cx)(op:BinOp)(xt:Nat)(x y:V)(kw:Kw)(k:Eff->Kw->Tr):Tr:=
 match x,y with
 |.one (.int k1 a),.one (.int k2 b)=>
   match op with
   |.shl|.shr=>
     if k2.signed then AB (A8 b (.p 0)) (fun neg kw=>if neg then .panic else k {val:=.one (.int k1 (jU op k1 a b))} kw) kw
     else if b.rng kw.vk k2 then k {val:=.one (.int k1 (jU op k1 a b))} kw else .stuck 11
   |_=>
     if bB k1 k2 then
      match op with
      |.add|.sub|.mul|.and|.or|.xor|.andNot=>k {val:=.one (.int k1 (jU op k1 a b))} kw
      |.quo|.rem=>AB (FX b (.p 0)) (fun z kw=>if z then .panic else k {val:=.one (.int k1 (jU op k1 a b))} kw) kw
      |.eql=>k {val:=.one (.bool (FX a b))} kw
      |.neq=>k {val:=.one (.bool (eM (FX a b)))} kw
      |.lss=>k {val:=.one (.bool (A8 a b))} kw
      |.leq=>k {val:=.one (.bool (eM (A8 b a)))} kw
      |.gtr=>k {val:=.one (.bool (A8 b a))} kw
      |.geq=>k {val:=.one (.bool (eM (A8 a b)))} kw
      |_=>.stuck 12
     else .stuck 13
 |.one (.bool a),.one (.bool b)=>
   match op with
   |.eql=>match aj xt cx.ty with
     |some i=>if i.isb then k {val:=.one (.bool (Pq a b))} kw else .stuck 14
     |none=>.stuck 14
   |.neq=>match aj xt cx.ty with
     |some i=>if i.isb then k {val:=.one (.bool (eM (Pq a b)))} kw else .stuck 14
     |none=>.stuck 14
   |_=>.stuck 15
 |.one (.clo _ _ _),.one .nf=>
   match aj xt cx.ty with
   |some i=>if i.fnt then
    match op with
    |.eql=>k {val:=.one (.bool (.tt ZC))} kw
    |.neq=>k {val:=.one (.bool (.tt ZB))} kw
    | _=>.stuck 51
     else .stuck 52
   |none=>.stuck 52
 |.one (.fn _),.one .nf|.one .nf,.one .nf=>
   match aj xt cx.ty with
   |some i=>if i.fnt then
    match op,x with
    |.eql,.one .nf=>k {val:=.one (.bool (.tt ZB))} kw
    |.neq,.one .nf=>k {val:=.one (.bool (.tt ZC))} kw
    |.eql,_=>k {val:=.one (.bool (.tt ZC))} kw
    |.neq,_=>k {val:=.one (.bool (.tt ZB))} kw
    | _,_=>.stuck 51
     else .stuck 52
   |none=>.stuck 52
 |.agg cs,.agg ds=>
   match aj xt cx.ty,vn (asB cx) cs ds with
   |some i,ZA e=>
     if i.eqok&&((dU cs i.zero&&Fx kw.vk cs kw.vk 0)&&(dU ds i.zero&&Fx kw.vk ds kw.vk 0))then
      match op with
      |.eql=>k {val:=.one (.bool e)} kw
      |.neq=>k {val:=.one (.bool (eM e))} kw
      |_=>.stuck 16
     else .stuck 17
   |_,_=>.stuck 18
 |_,_=>.stuck 19
def uM(e:E)(n:Nat)(k:Nat->Kw->Tr):Nat->Kw->Tr
 |0,_=>.panic
 |m+1,kw=>AB (FX e (.p (n-(m+1):Nat))) (fun b kw=>if b then k (n-(m+1)) kw else uM e n k m kw) kw
def Oz(cx:Cx)(ft:Nat)(cs:List C)(off:Nat):Option V:=
 match aj ft cx.ty with
 |some i=>if i.agg then(if off+i.size<=cs.length then ZA (.agg ((cs.drop off).take i.size))else ZD)else(cs[off]?).map .one
 |none=>ZD
def setRow:List C->Nat->List C->List C
 |cs,_,[]=>cs
 |cs,off,v::r=>setRow (cs.set off v) (off+1) r
def rS(pl:Nat->Option (Nat×Nat)):List C->List (Nat×V)->Option (List C)
 |cs,[]=>ZA cs
 |cs,(i,v)::l=>match pl i with
   |some (off,size)=>if v.flat&&(ZI v.cells.length size&&decide (off+size<=cs.length))then rS pl (setRow cs off v.cells) l else ZD
   |none=>ZD
def JK(ev:Operand->Option V):List (Nat×Operand)->Option (List (Nat×V))
 |[]=>ZA []
 |(i,x)::l=>match ev x,JK ev l with
   |some v,ZA vs=>ZA ((i,v)::vs)
   |_,_=>ZD
def po(ty:List (Nat×TI)):List (Nat×Nat)->Option (List (Nat×Nat))
 |[]=>ZA []
 |(off,ft)::l=>match aj ft ty,po ty l with
   |some i,ZA r=>ZA ((off,i.size)::r)
   |_,_=>ZD
def UN(cx:Cx)(t:Nat)(A0:List (Nat×V)):Option V:=
 match aj t cx.ty with
 |some i=>match i.arr with
   |some (_,et)=>match aj et cx.ty with
     |some ie=>(rS (fun m=>ZA (m*ie.size,ie.size)) i.zero A0).map .agg
     |none=>ZD
   |none=>if i.agg then(match po cx.ty i.fields with
     |some pl=>(rS (fun m=>pl[m]?) i.zero A0).map .agg
     |none=>ZD)else ZD
 |none=>ZD
def E.isLit:E->Bool
 |.p _=>ZB
 |_=>ZC
def Jv(e:E)(n:Nat):E:=ic (eM (A8 e (.p 0))) (A8 e (.p n))
def KY(k:IntKind)(sz c:Nat):Nat->List C->Option E
 |0,_=>ZA .nil
 |n+1,cs=>match cs[c]?,KY k sz c n (cs.drop sz)with
   |some (.int k' a),ZA t=>if bB k k' then ZA (.cons a t)else ZD
   |_,_=>ZD
def Mv(e:E)(n sz:Nat)(cs:List C):Nat->Nat->Option (List C)
 |_,0=>ZA []
 |c,m+1=>match cs[c]? with
   |some (.int k _)=>match KY k sz c n cs,Mv e n sz cs (c+1) m with
     |some l,ZA r=>ZA (.int k (.nth e l)::r)
     |_,_=>ZD
   |_=>ZD
def FA(c:E):Nat->List C->List C->Option (List C)
 |off+1,x::xs,vc=>(FA c off xs vc).map (x::·)
 |0,xs,[]=>ZA xs
 |0,.int k a::xs,.int k' x::vc=>if bB k k' then(FA c 0 xs vc).map (.int k (.ite c x a)::·)else ZD
 |_,_,_=>ZD
def Km(e:E)(off sz:Nat)(vc:List C):Nat->Nat->List C->Option (List C)
 |_,0,cs=>ZA cs
 |m,n+1,cs=>match FA (.eq e (.p m)) off (cs.take sz) vc,Km e off sz vc (m+1) n (cs.drop sz)with
   |some a,ZA b=>ZA (a++b)
   |_,_=>ZD
def Vw.mw(vw:Vw)(id:Nat):Option (RowOb×Nat×Bool×Bool):=match vw.rw id with
 |some r=>match r.kd with
   |.map nk ka va=>ZA (r,nk,ka,va)
   |_=>ZD
 |none=>ZD
def Vw.iw(vw:Vw)(id:Nat):Option (RowOb×Nat×E):=match vw.rw id with
 |some r=>match r.kd with
   |.it mid n=>ZA (r,mid,n)
   |_=>ZD
 |none=>ZD
def C.isZero:C->Bool
 |.int _ (.p z)=>fy z 0
 |.bool (.tt b)=>!b
 |_=>ZC
def Pz(a:Bool):V->Bool
 |.agg _=>a
 |.one _=>!a
 |_=>ZC
def qN(i:TI)(r:RowOb)(nk:Nat)(ka va:Bool)(ki ei:TI)(kv:V)(t:Nat):Bool:=
 ZI r.ty t&&(Pz ka kv&&((ki.agg==ka)&&((ei.agg==va)&&(ei.zero.all C.isZero&&(dU (kv.cells) ki.zero&&((bif ka then ki.keyok&&ki.eqok else(match ki.ik,r.ks with|some kd,ZA Hs::_=>bB kd Hs&&ZI nk 1|_,_=>ZC))&&(ZI nk kv.cells.length&&(match Dc ki.zero,Dc ei.zero with
  |some a,ZA b=>bZ r.ks (a++b)
  |_,_=>ZC))))))))
def Fo(e l:E):E:=ic (eM (A8 e (.p 0))) (A8 e (bY l))
def Ki(vw:Vw):List V->E
 |[]=>.tt ZB
 |.one (.ep id _ e 0)::l=>match vw.sw id with
   |some r=>ic (Fo e r.l) (Ki vw l)
   |none=>Ki vw l
 |_::l=>Ki vw l
def Wd(cx:Cx)(vw:Vw)(g:Nat)(args:List V)(kw:Kw)(k:Eff->Kw->Tr):Tr:=AB (Ki vw args) (fun b kw=>if b then aoe cx vw g args kw k else .stuck 262) kw
def D1(vk:List VK)(l:E):E:=match bY l with
 |.p z=>.p z
 |e=>if e.rng vk .i64 then e else .F .i64 e
def DK(a b:E):E:=match b with
 |.lq .ln r=>.lq a r
 |b=>match a with|.ln=>b|a=>.lcat a b
def DW:Int:=1073741824
def Tw(cx:Cx)(vw:Vw)(op:Op)(kw:Kw)(k:Eff->Kw->Tr):Tr:=
 match op with
 |.move x|.assign x=>match vw.ev x with
   |some v=>k {val:=v} kw
   |none=>.stuck 1
 |.alloc t=>match aj t cx.ty with
   |some i=>k {val:=.one (.ptr vw.nid 0),al:=ZA (i.zero,t)} kw
   |none=>.stuck 2
 |.box t x=>match vw.ev x with
   |some v=>if v.flat then k {val:=.one (.ptr vw.nid 0),al:=ZA (v.cells,t)} kw else .stuck 3
   |none=>.stuck 3
 |.load t x=>match vw.ev x,aj t cx.ty with
   |some (.one (.ptr b o)),ZA i=>
     if i.agg then(match vw.row b o i.size with
      |some cs=>k {val:=.agg cs,rd:=ed b o i.size} kw
      |none=>.stuck 4)
     else(match vw.ld b o with
      |some c=>k {val:=.one c,rd:=[(b,o)]} kw
      |none=>.stuck 4)
   |some (.one (.fp b o)),ZA i=>
     if i.agg then(match(vw.fb b).bind fun cs=>Q6 cs o i.size with
      |some cs=>if cs.all C.solid then k {val:=.agg cs} kw else .stuck 226
      |none=>.stuck 4)
     else(match(vw.fb b).bind (·[o]?)with
      |some c=>if c.solid then k {val:=.one c} kw else .stuck 226
      |none=>.stuck 4)
   |some (.one (.pe b o n sz e off)),ZA i=>match vw.row b o (n*sz)with
     |some cs=>if decide (off+i.size<=sz)then
      AB (Jv e n) (fun ok kw=>if ok then
       (match Mv e n sz cs off i.size with
       |some ds=>if i.agg then k {val:=.agg ds,rd:=ed b o (n*sz)} kw else(match ds with
         |[d]=>k {val:=.one d,rd:=ed b o (n*sz)} kw
         |_=>.stuck 160)
       |none=>.stuck 161)
       else .stuck 162) kw
       else .stuck 163
     |none=>.stuck 164
   |some (.one (.ep id Bj e off)),ZA i=>match vw.sw id with
     |some r=>if ZI r.ks.length Bj&&decide (off+i.size<=Bj)then
      AB (Fo e r.l) (fun b kw=>if b then
       (if i.agg then k {val:=.agg (RH r.l e off ((r.ks.drop off).take i.size)),rr:=[id]} kw
       else match r.ks[off]? with
        |some ck=>k {val:=.one (Hu r.l e off ck),rr:=[id]} kw
        |none=>.stuck 53)
       else .stuck 54) kw
       else .stuck 55
     |none=>.stuck 56
   |_,_=>.stuck 5
 |.store t x y=>match vw.ev x,vw.ev y,aj t cx.ty with
   |some (.one (.ptr b o)),ZA v,ZA i=>if v.flat&&(ZI v.cells.length i.size&&v.cells.all C.solid)then k {val:=.one .undef,wr:=eQ b o v.cells} kw else .stuck 6
   |some (.one (.pe b o n sz e off)),ZA v,ZA i=>match vw.row b o (n*sz)with
     |some cs=>if v.flat&&(ZI v.cells.length i.size&&(decide (off+i.size<=sz)&&ZI cs.length (n*sz)))then
      AB (Jv e n) (fun ok kw=>if ok then
       (match Km e off sz v.cells 0 n cs with
       |some ds=>if ds.all C.solid&&(cs.all C.solid&&v.cells.all C.solid)then k {val:=.one .undef,rd:=ed b o (n*sz),wr:=eQ b o ds} kw else .stuck 165
       |none=>.stuck 166)
       else .stuck 167) kw
       else .stuck 168
     |none=>.stuck 169
   |some (.one (.ep id Bj e off)),ZA v,ZA i=>match vw.sw id with
     |some r=>if r.own&&(ZI r.ks.length Bj&&(v.flat&&(ZI v.cells.length i.size&&decide (off+i.size<=Bj))))then
      AB (Fo e r.l) (fun b kw=>if b then
       (match gj kw.vk r.l e off (r.ks.drop off) v.cells with
        |some l=>k {val:=.one .undef,rr:=[id],re:=.set id {r with l:=l}} kw
        |none=>.stuck 57)
       else .stuck 58) kw
       else .stuck 59
     |none=>.stuck 62
   |_,_,_=>.stuck 7
 |.nilCheck x=>match vw.ev x with
   |some (.one (.ptr b o))=>k {val:=.one (.ptr b o)} kw
   |some (.one (.fp b o))=>k {val:=.one (.fp b o)} kw
   |some (.one (.pe b o n sz e off))=>k {val:=.one (.pe b o n sz e off)} kw
   |some (.one (.fn g))=>k {val:=.one (.fn g)} kw
   |some (.one (.ep id Bj e off))=>k {val:=.one (.ep id Bj e off)} kw
   |some (.one (.clo g fs ps))=>k {val:=.one (.clo g fs ps)} kw
   |some (.one .np)=>.panic
   |_=>.stuck 8
 |.binOp op xt x y _=>match vw.ev x,vw.ev y with
   |some v,ZA u=>MG cx op xt v u kw k
   |_,_=>.stuck 9
 |.unOp op _ x=>match op,vw.ev x with
   |.not,ZA (.one (.bool e))=>k {val:=.one (.bool (eM e))} kw
   |.neg,ZA (.one (.int kd e))=>k {val:=.one (.int kd (jU .sub kd (.p 0) e))} kw
   |.xor,ZA (.one (.int kd e))=>k {val:=.one (.int kd (jU .xor kd (.p (if kd.signed then -1 else kd.max)) e))} kw
   |_,_=>.stuck 10
 |.convert s d x=>match vw.ev x,aj d cx.ty,aj s cx.ty with
   |some (.one (.int _ e)),ZA i,ZA _=>match i.ik with
     |some kd=>k {val:=.one (.int kd (if e.rng kw.vk kd then e else R1 kd e))} kw
     |none=>.stuck 20
   |_,_,_=>.stuck 21
 |.fieldAddr s x f=>match vw.ev x,aj s cx.ty with
   |some (.one (.ptr b o)),ZA i=>match i.fields[f]? with
     |some (off,_)=>k {val:=.one (.ptr b (o+off))} kw
     |none=>.stuck 22
   |some (.one (.fp b o)),ZA i=>match i.fields[f]? with
     |some (off,_)=>k {val:=.one (.fp b (o+off))} kw
     |none=>.stuck 22
   |some (.one (.pe b o n sz e off0)),ZA i=>match i.fields[f]? with
     |some (off,_)=>k {val:=.one (.pe b o n sz e (off0+off))} kw
     |none=>.stuck 22
   |some (.one (.ep id Bj e o)),ZA i=>match i.fields[f]? with
     |some (off,_)=>k {val:=.one (.ep id Bj e (o+off))} kw
     |none=>.stuck 22
   |_,_=>.stuck 23
 |.field s x f=>match vw.ev x,aj s cx.ty with
   |some (.agg cs),ZA i=>match i.fields[f]? with
     |some (off,ft)=>match Oz cx ft cs off with
       |some v=>k {val:=v} kw
       |none=>.stuck 24
     |none=>.stuck 25
   |_,_=>.stuck 26
 |.indexAddr t x y=>match vw.ev x,vw.ev y,aj t cx.ty with
   |some (.one (.ptr b o)),ZA (.one (.int _ e)),ZA i=>match i.arr with
     |some (n,et)=>match aj et cx.ty with
       |some ie=>if VH cx&&(!e.isLit &&!ie.fnt)then AB (Jv e n) (fun ok kw=>if ok then k {val:=.one (.pe b o n ie.size e 0)} kw else .panic) kw else uM e n (fun m kw=>k {val:=.one (.ptr b (o+m*ie.size))} kw) n kw
       |none=>.stuck 27
     |none=>.stuck 28
   |some (.one (.ep id Bj e0 o)),ZA (.one (.int _ e)),ZA i=>match i.arr with
     |some (n,et)=>match aj et cx.ty with
       |some ie=>uM e n (fun m kw=>k {val:=.one (.ep id Bj e0 (o+m*ie.size))} kw) n kw
       |none=>.stuck 27
     |none=>.stuck 28
   |some (.one (.sl id)),ZA (.one (.int _ e)),ZA i=>match i.sle with
     |some et=>match aj et cx.ty,vw.sw id with
       |some ie,ZA r=>if ZI r.ks.length ie.size then AB (Fo e r.l) (fun b kw=>if b then k {val:=.one (.ep id ie.size e 0),rr:=[id]} kw else .panic) kw else .stuck 63
       |_,_=>.stuck 64
     |none=>.stuck 65
   |some (.one .nsl),ZA (.one (.int _ _)),ZA _=>.panic
   |_,_,_=>.stuck 29
 |.index t x y=>match vw.ev x,vw.ev y,aj t cx.ty with
   |some (.agg cs),ZA (.one (.int _ e)),ZA i=>match i.arr with
     |some (n,et)=>match aj et cx.ty with
       |some ie=>uM e n (fun m kw=>match Oz cx et cs (m*ie.size)with
         |some v=>k {val:=v} kw
         |none=>.stuck 30) n kw
       |none=>.stuck 31
     |none=>.stuck 32
   |_,_,_=>.stuck 33
 |.pick c x y=>match vw.ev c,vw.ev x,vw.ev y with
   |some (.one (.bool e)),ZA u,ZA v=>AB e (fun b kw=>k {val:=if b then u else v} kw) kw
   |_,_,_=>.stuck 42
 |.build t ps=>match JK vw.ev ps.toList with
   |some A0=>match UN cx t A0 with
     |some v=>k {val:=v} kw
     |none=>.stuck 43
   |none=>.stuck 44
 |.buildSlice t n ps=>match JK vw.ev ps.toList,aj t cx.ty with
   |some A0,ZA i=>match i.sle with
     |some et=>match aj et cx.ty with
       |some ie=>match Dc ie.zero,rS (fun m=>ZA (m*ie.size,ie.size)) ((YK n ie.zero).flatten) A0 with
         |some ks,ZA cs=>match Ov kw.vk ks n cs with
           |some l=>if decide (n*ie.size<=16777216)&&(decide (0<ie.size)&&ZI ks.length ie.size)then k {val:=.one (.sl vw.nid),re:=.mk [⟨ks,et,l,ZB,.sl⟩]} kw else .stuck 66
           |none=>.stuck 67
         |_,_=>.stuck 68
       |none=>.stuck 69
     |none=>.stuck 74
   |_,_=>.stuck 75
 |.makeSlice t x y=>match vw.ev x,vw.ev y,aj t cx.ty with
   |some (.one (.int _ e)),ZA (.one (.int _ e')),ZA i=>match i.sle with
     |some et=>match aj et cx.ty with
       |some ie=>match Dc ie.zero with
         |some ks=>match D3 kw.vk ks ie.zero with
           |some r=>if e.same e'&&(decide (0<ie.size)&&(ZI ks.length ie.size&&decide (ie.bytes<=65536)))then
            AB (A8 e (.p 0)) (fun b kw=>if b then .panic else AB (A8 e (.p DW)) (fun b kw=>if b then
             k {val:=.one (.sl vw.nid),re:=.mk [⟨ks,et,.lrep e r,ZB,.sl⟩]} kw else .panic) kw) kw
             else .stuck 76
           |none=>.stuck 77
         |none=>.stuck 78
       |none=>.stuck 79
     |none=>.stuck 84
   |_,_,_=>.stuck 85
 |.slice t x lo hi ZD=>match vw.ev x,aj t cx.ty with
   |some (.one (.sl id)),ZA i=>match i.sle,vw.sw id with
     |some et,ZA r=>match aj et cx.ty with
       |some ie=>if ZI r.ks.length ie.size&&ZI r.ty et then
        (match hi.map vw.ev,lo.map vw.ev with
        |none,ZA (ZA (.one (.int _ a)))=>AB (A8 a (.p 0)) (fun b kw=>if b then .panic else AB (A8 (bY r.l) a) (fun b kw=>if b then .panic else
         k {val:=.one (.sl vw.nid),rr:=[id],re:=.view id {r with own:=ZC} ⟨r.ks,et,.ldrop r.l a,ZC,.sl⟩} kw) kw) kw
        | _,_=>.stuck 86)
         else .stuck 87
       |none=>.stuck 88
     |_,_=>.stuck 89
   |_,_=>.stuck 90
 |.makeMap t ZD=>match aj t cx.ty with
   |some i=>match i.mapt with
     |some (kt,et)=>match aj kt cx.ty,aj et cx.ty with
       |some ki,ZA ei=>match Dc ki.zero,Dc ei.zero with
         |some kk,ZA ek=>if decide (0<kk.length)then k {val:=.one (.mp vw.nid),re:=.mk [⟨kk++ek,t,.ln,ZB,.map kk.length ki.agg ei.agg⟩]} kw else .stuck 131
         |_,_=>.stuck 132
       |_,_=>.stuck 133
     |none=>.stuck 134
   |none=>.stuck 135
 |.lookup t x y ok=>.stuck 300
 |.mapUpdate t x y z=>match vw.ev x,vw.ev y,vw.ev z,aj t cx.ty with
   |some (.one (.mp id)),ZA kv,ZA zv,ZA i=>match i.mapt,vw.mw id with
     |some (kt,et),ZA (r,nk,ka,va)=>match aj kt cx.ty,aj et cx.ty,D3 kw.vk (r.ks.take nk) kv.cells with
       |some ki,ZA ei,ZA key=>match D3 kw.vk r.ks (kv.cells++zv.cells)with
         |some row=>if qN i r nk ka va ki ei kv t&&Pz va zv then
           AB (A8 (OA r.l key) (bY r.l)) (fun b kw=>if b then
            k {val:=.one .undef,rr:=[id],re:=.set id {r with l:=.lput r.l (OA r.l key) row}} kw
           else AB (A8 (bY r.l) (.p DW)) (fun b kw=>if b then k {val:=.one .undef,rr:=[id],re:=.set id {r with l:=.lq r.l row}} kw else .stuck 130) kw) kw else .stuck 140
         |none=>.stuck 141
       |_,_,_=>.stuck 142
     |_,_=>.stuck 143
   |_,_,_,_=>.stuck 144
 |.range t x=>match vw.ev x,aj t cx.ty with
   |some (.one (.mp id)),ZA i=>match i.mapt,vw.mw id with
     |some _,ZA (r,_,_,_)=>if ZI id vw.nid then .stuck 152 else k {val:=.one (.itp vw.nid id),rr:=[id],re:=.mk [⟨[ZA .i64],t,.ln,ZB,.it id (bY r.l)⟩]} kw
     |_,_=>.stuck 145
   |_,_=>.stuck 146
 |.entry x=>match vw.ev x with
   |some (.one (.itp id mid))=>match vw.iw id with
     |some (q,Ik,n)=>if ZI Ik mid then match q.l,vw.mw mid with
       |.lq _ (.cons iv .nil),ZA (r,nk,ka,va)=>if n.same (bY r.l)&&(decide (nk<=r.ks.length)&&((ka||Nat.beq nk 1)&&(va||Nat.beq (r.ks.drop nk).length 1)))then
        k {val:=.tup [(ka,eK r.l iv 0 (r.ks.take nk)),(va,eK r.l iv nk (r.ks.drop nk))],rr:=[id,mid]} kw else .stuck 147
       |_,_=>.stuck 148
       else .stuck 151
     |none=>.stuck 149
   |_=>.stuck 150
 |.makeFunc fn fs ps=>match fn,G6 vw.ev fs.toList,G6 vw.ev ps.toList with
   |.func g,ZA a,ZA b=>k {val:=.one (.clo g a b)} kw
   |_,_,_=>.stuck 119
 |.extract x n=>match vw.ev x with
   |some (.tup vs)=>match vs[n]? with
     |some (ZB,cs)=>k {val:=.agg cs} kw
     |some (ZC,[c])=>k {val:=.one c} kw
     |_=>.stuck 34
   |_=>.stuck 35
 |.call c=>match c.callee with
   |.value f=>match vw.ev f,DM vw.ev c.args.toList with
     |some (.one (.fn g)),ZA args=>Wd cx vw g args kw k
     |_,_=>.stuck 36
   |.builtin .len=>match DM vw.ev c.args.toList,c.argTypes.toList with
     |some [.one (.sl id)],[t]=>match aj t cx.ty,vw.sw id with
       |some i,ZA r=>if i.sle.isSome then k {val:=.one (.int .i64 (D1 kw.vk r.l)),rr:=[id]} kw else .stuck 91
       |_,_=>.stuck 92
     |some [.one .nsl],[t]=>match aj t cx.ty with
       |some i=>if i.sle.isSome then k {val:=.one (.int .i64 (.p 0))} kw else .stuck 91
       |none=>.stuck 92
     |_,_=>.stuck 93
   |.builtin .append=>match DM vw.ev c.args.toList,c.argTypes.toList with
     |some [.one s,.one (.sl id)],[t,t']=>match aj t cx.ty,vw.sw id with
       |some i,ZA r=>match i.sle with
         |some et=>match aj et cx.ty with
           |some ie=>if ZI t t'&&(ZI r.ty et&&(ZI r.ks.length ie.size&&(decide (0<ie.size)&&decide (ie.bytes<=65536))))then
            (match s with
            |.nsl=>AB (A8 (bY r.l) (.p DW)) (fun b kw=>if b then k {val:=.one (.sl vw.nid),rr:=[id],re:=.mk [⟨r.ks,et,r.l,ZB,.sl⟩]} kw else .panic) kw
            |.sl old=>match vw.sw old with
              |some q=>if q.own&&(ZI q.ty et&&(bZ q.ks r.ks &&!ZI old id))then
               AB (ic (A8 (bY q.l) (.p DW)) (A8 (bY r.l) (.p DW))) (fun b kw=>if b then k {val:=.one (.sl vw.nid),rr:=[old,id],re:=.app old ⟨r.ks,et,DK q.l r.l,ZB,.sl⟩} kw else .panic) kw
                else .stuck 94
              |none=>.stuck 95
            | _=>.stuck 96)
             else .stuck 97
           |none=>.stuck 98
         |none=>.stuck 99
       |_,_=>.stuck 101
     |_,_=>.stuck 102
   |.builtin .min=>match DM vw.ev c.args.toList with
     |some (.one (.int k0 e)::l)=>match Mf xB k0 e l with
       |some e'=>k {val:=.one (.int k0 e')} kw
       |none=>.stuck 37
     |_=>.stuck 38
   |.builtin .max=>match DM vw.ev c.args.toList with
     |some (.one (.int k0 e)::l)=>match Mf Pp k0 e l with
       |some e'=>k {val:=.one (.int k0 e')} kw
       |none=>.stuck 39
     |_=>.stuck 40
   |_=>.stuck 41
 |_=>.stuck 50
def Fb(ρ:Env)(j:J)(w:World)(ld:Nat->Nat->Option C)(rd:List (Nat×Nat)):Prop:=∀p∈rd,∀c,ld p.1 p.2=ZA c->∃k v,j.b p.1=ZA k/\c.den ρ j=ZA v/\w.cell? ⟨k,p.2,ZD⟩=ZA v
def KQ(j:J)(w:World)(wr:List (Nat×Nat×C)):Prop:=∀p∈wr,∃k u,j.b p.1=ZA k/\w.cell? ⟨k,p.2.1,ZD⟩=ZA u/\w.frozen? ⟨k,p.2.1,ZD⟩=ZC
def tE(ρ:Env)(j:J):List (Nat×Nat×C)->World->World->Prop
 |[],w,w'=>w'=w
 |(b,o,c)::l,w,w'=>∃k v,j.b b=ZA k/\c.den ρ j=ZA v/\tE ρ j l (w.setCell ⟨k,o,ZD⟩ v) w'
def dm:∀{ks:List CE} {r:List Int},aq ks r=ZB->(Ax ks r).length=ks.length
 |[],[],_=>rfl
 |k::ks,x::xs,h=>by simp only[aq,ne]at h;simp[Ax,dm h.2]
def pi:∀{ks:List CE} {r:List Int} {c:Nat} {k:CE},aq ks r=ZB->ks[c]? =ZA k->(Ax ks r)[c]? =ZA (fv k (r.getD c 0))
 |k0::ks,x::xs,c,k,h,hc=>by
   simp only[aq,ne]at h;cases c with
   |zero=>simp at hc;subst hc;simp[Ax]
   |succ c=>simpa[Ax]using pi h.2 Yk
 |[],_,c,k,_,hc=>by simp at hc
def abL:∀{ks:List CE} {r:List Int} {c:Nat} {k:CE},aq ks r=ZB->ks[c]? =ZA k->∀x,(Ax ks r).set c (fv k x)=Ax ks (r.set c x)
 |k0::ks,y::ys,c,k,h,hc,x=>by
   simp only[aq,ne]at h;cases c with
   |zero=>simp at hc;subst hc;simp[Ax]
   |succ c=>simp[Ax,abL h.2 Yk x]
 |[],_,c,k,_,hc,_=>by simp at hc
def ama(ks:List CE):flat ks []=[]:=rfl
def cr(ks:List CE)(r:List Int)(L:LL):flat ks (r::L)=Ax ks r++flat ks L:=by simp[flat]
def lJ(ks:List CE)(L M:LL):flat ks (L++M)=flat ks L++flat ks M:=by simp[flat]
def bt{ks:List CE}:∀{L:LL},(∀r∈L,aq ks r=ZB)->(flat ks L).length=L.length*ks.length
 |[],_=>by simp[flat]
 |r::L,h=>by rw[cr,cQ,dm (h r bG),bt (fun x hx=>h x (cm _ hx)),YM,Nat.succ_mul,Nat.add_comm]
def mX{ks:List CE}{c:Nat}{k:CE}(hc:ks[c]? =ZA k):∀{L:LL} {i:Nat},(∀r∈L,aq ks r=ZB)->i<L.length->(flat ks L)[i*ks.length+c]? =ZA (fv k ((L.getD i []).getD c 0))
 |[],i,_,hi=>ak hi (by simp)
 |r::L,i,h,hi=>by
   have CQ:c<ks.length:=by
    rcases bn c ks.length with h1|h1
    .exact h1
    .rw[bN h1]at hc;cases hc
   have hl:=dm (h r bG);cases i with
   |zero=>rw[cr,Nat.zero_mul,be,AW Fn,pi (h r bG) hc];rfl
   |succ i=>rw[cr,Bc Yj,hl,show(i+1)*ks.length+c-ks.length=i*ks.length+c by rw[Nat.succ_mul];omega];rw[mX hc (fun x hx=>h x (cm _ hx)) XM];rfl
def mW{ks:List CE}:∀{L:LL} (n:Nat),(∀r∈L,aq ks r=ZB)->(flat ks L).take (n*ks.length)=flat ks (L.take n)
 |[],n,_=>by simp[flat]
 |r::L,n,h=>by
   have hl:=dm (h r bG);cases n with
   |zero=>simp[flat]
   |succ n=>rw[cr,List.take_succ_cons,cr,<-mW n (fun x hx=>h x (cm _ hx)),List.take_append,hl,Nat.succ_mul,List.take_of_length_le Fn];congr 2;omega
def mY{ks:List CE}:∀{L:LL} (n:Nat),(∀r∈L,aq ks r=ZB)->(flat ks L).drop (n*ks.length)=flat ks (L.drop n)
 |[],n,_=>by simp[flat]
 |r::L,n,h=>by
   have hl:=dm (h r bG);cases n with
   |zero=>simp[flat]
   |succ n=>rw[cr,List.drop_succ_cons,<-mY n (fun x hx=>h x (cm _ hx)),List.drop_append,hl,Nat.succ_mul,List.drop_of_length_le Fn,ZM];congr 1;omega
def acI{ks:List CE}{c:Nat}{k:CE}(hc:ks[c]? =ZA k)(x:Int):∀{L:LL} {i:Nat},(∀r∈L,aq ks r=ZB)->i<L.length->(flat ks L).set (i*ks.length+c) (fv k x)=flat ks (L.set i ((L.getD i []).set c x))
 |[],i,_,hi=>ak hi (by simp)
 |r::L,i,h,hi=>by
   have CQ:c<ks.length:=by
    rcases bn c ks.length with h1|h1
    .exact h1
    .rw[bN h1]at hc;cases hc
   have hl:=dm (h r bG);cases i with
   |zero=>rw[cr,Nat.zero_mul,be,List.set_append_left _ _ Fn,abL (h r bG) hc];rfl
   |succ i=>rw[cr,List.set_append_right _ _ Yj,hl,show(i+1)*ks.length+c-ks.length=i*ks.length+c by rw[Nat.succ_mul];omega];rw[acI hc x (fun y hy=>h y (cm _ hy)) XM];show _=flat ks (r::L.set i _);rw[cr];rfl
def px{ks:List CE}:∀{L:LL},∀u∈flat ks L,u.oneCell'=ZB:=by
 have row:∀(ks:List CE) (r:List Int),∀u∈Ax ks r,u.oneCell'=ZB:=by
  intro ks
  induction ks with
  |nil=>intro r u hu;simp[Ax]at hu
  |cons k ks ih=>
    intro r u hu;cases r with
    |nil=>simp[Ax]at hu
    |cons x xs=>
      simp only[Ax,ZN]at hu;rcases hu with rfl|hu
      .cases k<;>rfl
      .exact ih xs u hu
 intro L u hu;simp only[flat,List.mem_flatMap]at hu;obtain⟨r,_,hu⟩:=hu;exact row ks r u hu
structure SlOk(ρ:Env)(base:Nat)(w:World)(s:SV)(r:RowOb):Prop where
 n:s.n=(r.l.R ρ).length
 rows:RowsIn r.ks (r.l.R ρ)
 pos:0<r.ks.length
 lt:∀k,s.blk r.own=ZA k->k<w.heap.size
 own:r.own=ZB->w.ownsRow base r.ty r.ks.length s.v s.n (flat r.ks (r.l.R ρ))
 rd:RdRow w r.ks.length s (flat r.ks (r.l.R ρ))
def dt(agg:Bool)(vs:List Value):Value:=if agg then .agg vs.toArray else vs.headD undef
def Dl(ks:List CE)(nk:Nat)(ka va:Bool)(i:Nat)(r:List Int):MapEntry:=⟨dt ka ((Ax ks r).take nk),dt va ((Ax ks r).drop nk),i⟩
def cu(ks:List CE)(nk:Nat)(ka va:Bool):Nat->LL->List MapEntry
 |_,[]=>[]
 |i,r::L=>Dl ks nk ka va i r::cu ks nk ka va (i+1) L
def Ck(L:LL):List Nat:=L.map fun r=>(r.getD 0 0).toNat
def FZ(ρ:Env)(s:SV)(r:RowOb)(o:Obj):Prop:=
 match r.kd with
 |.sl=>False
 |.ev=>False
 |.map nk ka va=>o=.map (cu r.ks nk ka va 0 (r.l.R ρ)).toArray (r.l.R ρ).length
 |.tab=>∃(ps:List (Option Addr)) (ty:Nat),o=.cells (ps.map Value.pointer).toArray ty (0,0)
 |.it _ n=>r.ks=[ZA .i64]/\o=.mapIter (ZA s.n) (n.I ρ).toNat (Ck (r.l.R ρ)).toArray (n.I ρ).toNat/\(r.l.R ρ).Nodup/\∀x∈r.l.R ρ,0<=x.getD 0 0/\x.getD 0 0<n.I ρ
structure HdOk(ρ:Env)(base:Nat)(w:World)(s:SV)(r:RowOb):Prop where
 own:r.own=ZB
 rows:RowsIn r.ks (r.l.R ρ)
 c:s.c=1
 at':∃g o,s.a=ZA ⟨g,0,ZD⟩/\base<=g/\w.heap[g]? =ZA o/\FZ ρ s r o
structure EiOk(z:List (Nat×Obj))(row:List Int)(x:SV):Prop where
 n:(x.n:Int)=row.getD 2 0
 most:x.n<=5
 rest:(row.drop 3).drop x.n=YK (5-x.n) 0
 rd:∀w:World,(∀p∈z,w.heap[p.1]? =ZA p.2)->RdRow w 1 x (td row)
 blk:∀k,x.blk ZC=ZA k->∃o,(k,o)∈z
def EiOk.mono{z z':List (Nat×Obj)}{row:List Int}{x:SV}(h:EiOk z row x)(hz:∀p∈z,p∈z'):EiOk z' row x:=⟨h.n,h.most,h.rest,fun w hw=>h.rd w (fun p hp=>hw p (hz p hp)),fun k hk=>let⟨o,ho⟩:=h.blk k hk;⟨o,hz _ ho⟩⟩
structure EvOk(ρ:Env)(base:Nat)(w:World)(s:SV)(r:RowOb):Prop where
 ks:r.ks=CM
 n:s.n=(r.l.R ρ).length
 rows:RowsIn r.ks (r.l.R ρ)
 lt:∀k,s.blk r.own=ZA k->k<w.heap.size
 zb:r.own=ZB->∀p∈s.z,base<=p.1
 at':∃ins:List SV,ins.length=(r.l.R ρ).length/\(r.own=ZB->w.ownsRow base r.ty 3 s.v s.n (fj (r.l.R ρ) ins))/\RdRow w 3 s (fj (r.l.R ρ) ins)/\∀(i:Nat) row x,(r.l.R ρ)[i]? =ZA row->ins[i]? =ZA x->EiOk s.z row x
def RowOk(ρ:Env)(base:Nat)(w:World)(s:SV)(r:RowOb):Prop:=(r.kd=.sl->SlOk ρ base w s r)/\(r.kd.isHd=ZB->HdOk ρ base w s r)/\(r.kd=.ev->EvOk ρ base w s r)
def SlOk.row{ρ:Env}{s:SV}{r:RowOb}(h:SlOk ρ base w s r)(hk:r.kd=.sl):RowOk ρ base w s r:=⟨fun _=>h,fun hn=>(by rw[hk]at hn;cases hn),fun hn=>(by rw[hk]at hn;cases hn)⟩
def HdOk.row{ρ:Env}{s:SV}{r:RowOb}(h:HdOk ρ base w s r)(hk:r.kd.isHd=ZB):RowOk ρ base w s r:=⟨fun e=>(by rw[e]at hk;cases hk),fun _=>h,fun e=>(by rw[e]at hk;cases hk)⟩
def EvOk.row{ρ:Env}{s:SV}{r:RowOb}(h:EvOk ρ base w s r)(hk:r.kd=.ev):RowOk ρ base w s r:=⟨fun e=>(by rw[e]at hk;cases hk),fun e=>(by rw[hk]at e;cases e),fun _=>h⟩
def RowOk.cases{ρ:Env}{s:SV}{r:RowOb}(h:RowOk ρ base w s r):(r.kd=.sl/\SlOk ρ base w s r)\/(r.kd.isHd=ZB/\HdOk ρ base w s r)\/(r.kd=.ev/\EvOk ρ base w s r):=by
 cases hk:r.kd with
 |sl=>exact .inl ⟨rfl,h.1 hk⟩
 |map a b c=>exact .inr (.inl ⟨rfl,h.2.1 Yq⟩)
 |it a b=>exact .inr (.inl ⟨rfl,h.2.1 Yq⟩)
 |tab=>exact .inr (.inl ⟨rfl,h.2.1 Yq⟩)
 |ev=>exact .inr (.inr ⟨rfl,h.2.2 hk⟩)
def RowOk.rows{ρ:Env}{s:SV}{r:RowOb}(h:RowOk ρ base w s r):RowsIn r.ks (r.l.R ρ):=by rcases h.cases with⟨_,h⟩|⟨_,h⟩|⟨_,h⟩<;>exact h.rows
def HdOk.blk{ρ:Env}{s:SV}{r:RowOb}(h:HdOk ρ base w s r){k:Nat}(hk:s.blk o=ZA k):∃ob,s.a=ZA ⟨k,0,ZD⟩/\base<=k/\w.heap[k]? =ZA ob/\FZ ρ s r ob/\k<w.heap.size:=by obtain⟨g,ob,h1,h2,h3,h4⟩:=h.at';have e:=ay hk;simp only[SV.v,h1,Value.ownBlock,aU]at e;subst e;exact⟨ob,h1,h2,h3,h4,(fL.1 h3).1⟩
def HdOk.blkAt{ρ:Env}{s:SV}{r:RowOb}(h:HdOk ρ base w s r)(hg:s.a=ZA ⟨g,0,ZD⟩)(o:Bool):s.blk o=ZA g:=by unfold SV.blk;rw[ae (by rw[h.c];cases o<;>rfl)];simp[SV.v,hg,Value.ownBlock]
def qy{ty:Nat}{s:SV}{xs:List Value}(h:w.ownsRow base ty Bj s.v s.n xs):RdRow w Bj s xs:=by
 obtain⟨hl,h⟩:=h;rcases h with⟨hv,hn⟩|⟨g,Fg,cur,hv,hb,hg,hn,hm,hs,ht⟩
 .obtain⟨a,n,c,z⟩:=s;simp only[SV.v,Value.slice.injEq]at hv;obtain⟨rfl,rfl,rfl⟩:=hv;exact⟨hl,YJ _,by simp[maxLen],fun _=>⟨rfl,rfl⟩,fun a ha=>by cases ha⟩
 .obtain⟨a,n,c,z⟩:=s;simp only[SV.v,Value.slice.injEq]at hv;obtain⟨rfl,-,rfl⟩:=hv;refine⟨hl,hn,hm,fun h=>ST,fun a ha i u hu=> ?_⟩;cases ha;have:(⟨g,0,ZD⟩:Addr).add i=⟨g,i,ZD⟩:=XP;rw[this,cell_of_row w g i cur ty (0,0) hg,<-lr];rw[<-ht]at hu;simp only at hl hu;rw[List.getElem?_take]at hu;split at hu
  .exact hu
  .cases hu
def sE{ty:Nat}{s:SV}{n:Nat}{xs:List Value}(h:w.ownsRow base ty Bj s.v n xs):∀k,s.v.ownBlock=ZA k->k<w.heap.size/\base<=k:=by
 intro k hk;rcases h.2 with⟨hv,hn⟩|⟨g,Fg,cur,hv,hb,hg,_⟩
 .rw[hv]at hk;cases hk
 .rw[hv]at hk;cases hk;refine⟨?_,hb⟩;rcases bn g w.heap.size with h1|h1
  .exact h1
  .rw[Array.getElem?_eq_none h1]at hg;cases hg
def RowOk.lt{ρ:Env}{s:SV}{r:RowOb}(h:RowOk ρ base w s r):∀k,s.blk r.own=ZA k->k<w.heap.size:=by
 intro k hk;rcases h.cases with⟨_,h⟩|⟨_,h⟩|⟨_,h⟩
 .exact h.lt k hk
 .obtain⟨_,_,_,_,_,h5⟩:=h.blk hk;exact h5
 .exact h.lt k hk
def SlOk.mk_own{ρ:Env}{s:SV}{r:RowOb}(h1:s.n=(r.l.R ρ).length)(h2:RowsIn r.ks (r.l.R ρ))(h3:0<r.ks.length)(h4:w.ownsRow base r.ty r.ks.length s.v s.n (flat r.ks (r.l.R ρ))):SlOk ρ base w s r:=⟨h1,h2,h3,fun k hk=>(sE h4 k (ay hk)).1,fun _=>h4,qy h4⟩
def RowOk.owned{ρ:Env}{s:SV}{r:RowOb}(h:RowOk ρ base w s r)(ho:r.own=ZB):∀k,s.v.ownBlock=ZA k->k<w.heap.size/\base<=k:=by
 intro k hk;rcases h.cases with⟨_,h⟩|⟨_,h⟩|⟨_,h⟩
 .exact sE (h.own ho) k hk
 .obtain⟨g,ob,h1,h2,h3,h4⟩:=h.at';simp only[SV.v,h1,Value.ownBlock,aU]at hk;subst hk;exact⟨(fL.1 h3).1,h2⟩
 .obtain⟨ins,_,h2,_⟩:=h.at';exact sE (h2 ho) k hk
def RowOk.mk_own{ρ:Env}{s:SV}{r:RowOb}(hk:r.kd=.sl)(h1:s.n=(r.l.R ρ).length)(h2:RowsIn r.ks (r.l.R ρ))(h3:0<r.ks.length)(h4:w.ownsRow base r.ty r.ks.length s.v s.n (flat r.ks (r.l.R ρ))):RowOk ρ base w s r:=(SlOk.mk_own h1 h2 h3 h4).row hk
def NewZ(w w':World)(svs:List SV)(u:SV):Prop:=∀p∈u.z,w'.heap[p.1]? =ZA p.2/\B6 p.2=ZB/\w.heap.size<=p.1/\∀u'∈svs,u'.v.ownBlock≠ZA p.1
def NewZ.nil{svs:List SV}{u:SV}(h:u.z=[]):NewZ w w' svs u:=fun p hp=>by rw[h]at hp;cases hp
structure RetOk(res:List Sh)(tup:Bool)(w w':World)(X:List Dt)(v:Value):Prop where
 ext:Ext w w'
 rng:ib (res.flatMap (·.cks)) X
 svs:∃svs:List SV,svs.length=((res.flatMap (·.cks)).filter CK.isSl).length/\
     (∀(ρ:Env) v0 nid (j:J),eqs ρ X v0 0 (res.flatMap (·.cks))->(∀(i:Nat) u,svs[i]? =ZA u->j.s (nid+i)=ZA u)->(gN res tup v0 nid).den ρ j=ZA v)/\
     (∀(ρ:Env) v0,eqs ρ X v0 0 (res.flatMap (·.cks))->∀(i:Nat) u r,svs[i]? =ZA u->(bE v0 0 (res.flatMap (·.cks)))[i]? =ZA r->RowOk ρ w.heap.size w' u r)/\
     (∀(i i':Nat) u u' k,svs[i]? =ZA u->svs[i']? =ZA u'->u.v.ownBlock=ZA k->u'.v.ownBlock=ZA k->i=i')/\∀u∈svs,NewZ w w' svs u
def TD(P:Program)(sp:Spec)(s:Sm)(ks:List CE)(ty:Nat):Prop:=
 ∀L,sp.pre s.key [.l L]->∃L',sp.F s.key [.l L]=[.l L']/\RowsIn ks L'/\∀base sv w,OwnRow w base ty ks sv L->
   (callFunc s.f #[sv.v]).run P w=.ok (.enter s.f #[sv.v]) w/\Calls P s.f #[sv.v] w fun e w'=>e=.returned (.tuple #[])/\OwnRow w' base ty ks sv L'/\w.grownBy w' sv.v.ownBlock
structure SmOk(P:Program)(sp:Spec)(s:Sm):Prop where
 calls:s.inp=ZD->∀xs vals w,nN w s.args xs vals->sp.pre s.key xs->sp.hw w->
   (∃v w',(callFunc s.f vals.toArray).run P w=.ok (.value v) w'/\RetOk s.res s.tup w w' (sp.F s.key xs) v)\/((callFunc s.f vals.toArray).run P w=.ok (.enter s.f vals.toArray) w/\Calls P s.f vals.toArray w fun e w'=>∃v,e=.returned v/\RetOk s.res s.tup w w' (sp.F s.key xs) v)
 inpl:∀ks ty,s.inp=ZA (ks,ty)->TD P sp s ks ty
 rng:∀xs,Py s.args xs->sp.pre s.key xs->∀(ρ:Env) v0,eqs ρ (sp.F s.key xs) v0 0 s.ks->(∀(n:Nat) k,s.ks[n]? =ZA (.int k)->Aj k (ρ.i (v0+n))=ZB)/\(∀(n:Nat) ks ty,s.ks[n]? =ZA (.sl ks ty)->RowsIn ks (ρ.l (v0+n)))
def Zin(j:J)(s:SV):Prop:=∀p∈s.z,j.g.z p.1=ZA p.2/\B6 p.2=ZB
def Zin.nil{j:J}{s:SV}(h:s.z=[]):Zin j s:=fun p hp=>by rw[h]at hp;cases hp
def PtIs(j:J)(ks:List CE)(row:List Int):Option Addr->Prop
 |none=>row.getD 0 0=0
 |some a=>row.getD 0 0=1/\(∃b o,a=⟨b,o,ZD⟩)/\∃vs ty,j.g.z a.block=ZA (.cells vs ty (0,0))/\∀(c:Nat) v,(Ax ks row)[c+1]? =ZA v->vs[a.off+c]? =ZA v
def TbAt(ρ:Env)(j:J)(w:World)(s:SV)(r:RowOb):Prop:=
 ∃(g:Nat) (ps:List (Option Addr)) (ty:Nat),s.a=ZA ⟨g,0,ZD⟩/\w.heap[g]? =ZA (.cells (ps.map Value.pointer).toArray ty (0,0))/\ps.length=(r.l.R ρ).length/\
  ∀(i:Nat) row p,(r.l.R ρ)[i]? =ZA row->ps[i]? =ZA p->PtIs j r.ks row p
def PtIs.mono{j j':J}{ks:List CE}{row:List Int}{p:Option Addr}(h:PtIs j ks row p)(hz:∀k o,B6 o=ZB->j.g.z k=ZA o->j'.g.z k=ZA o):PtIs j' ks row p:=by
 cases p with
 |none=>exact h
 |some a=>obtain⟨h1,h2,vs,ty,h3,h4⟩:=h;exact⟨h1,h2,vs,ty,hz _ _ rfl h3,h4⟩
def TbAt.mono{ρ ρ':Env}{j j':J}{s:SV}{r r':RowOb}(h:TbAt ρ j w s r)(hl:r'.l.R ρ'=r.l.R ρ)(hk:r'.ks=r.ks)(hz:∀k o,B6 o=ZB->j.g.z k=ZA o->j'.g.z k=ZA o)(hw:∀g,s.a=ZA ⟨g,0,ZD⟩->w'.heap[g]? =w.heap[g]?):TbAt ρ' j' w' s r':=by obtain⟨g,ps,ty,h1,h2,h3,h4⟩:=h;refine⟨g,ps,ty,h1,by rw[hw g h1];exact h2,by rw[hl];exact h3,fun i row p hr hp=> ?_⟩;rw[hk];exact(h4 i row p (by rw[<-hl];exact hr) hp).mono hz
def RrOk(ρ:Env)(base:Nat)(j:J)(w:World)(rw:Nat->Option RowOb)(rr:List Nat):Prop:=∀id∈rr,∀r,rw id=ZA r->∃s,j.s id=ZA s/\RowOk ρ base w s r/\Zin j s/\(∀p∈s.z,w.heap[p.1]? =ZA p.2)/\(r.kd=.tab->TbAt ρ j w s r/\∀k o,j.g.z k=ZA o->w.heap[k]? =ZA o)
def EiOk.told{z:List (Nat×Obj)}{row:List Int}{x:SV}(h:EiOk z row x)(hz:∀p∈z,w.heap[p.1]? =ZA p.2/\B6 p.2=ZB):EvIn w row x:=⟨h.n,h.most,h.rest,h.rd w (fun p hp=>(hz p hp).1),fun k hk=>let⟨o,ho⟩:=h.blk k hk;⟨o,hz _ ho⟩⟩
def EvOk.told{ρ:Env}{j:J}{s:SV}{r:RowOb}(h:EvOk ρ base w s r)(hz:Zin j s/\∀p∈s.z,w.heap[p.1]? =ZA p.2):∃ins:List SV,ins.length=(r.l.R ρ).length/\RdRow w 3 s (fj (r.l.R ρ) ins)/\∀(i:Nat) row x,(r.l.R ρ)[i]? =ZA row->ins[i]? =ZA x->EvIn w row x:=by obtain⟨ins,h1,_,h2,h3⟩:=h.at';exact⟨ins,h1,h2,fun i row x hr hx=>(h3 i row x hr hx).told (fun p hp=>⟨hz.2 p hp,(hz.1 p hp).2⟩)⟩
def RdRow.nil{n:Nat}:RdRow w n ⟨ZD,0,0,[]⟩ []:=⟨by simp,YJ _,by simp[maxLen],fun _=>⟨rfl,rfl⟩,fun a ha=>(by cases ha)⟩
def TRow.nil{ks:List CE}:TRow w ks ⟨ZD,0,0,[]⟩ []:=by
 unfold TRow;split
 .exact⟨[],rfl,.nil,fun i row x h=>by simp at h⟩
 .exact .nil
def RrOk.sl{ρ:Env}{j:J}{vw:Vw}{rr:List Nat}(h:RrOk ρ base j w vw.rw rr)(id:Nat)(E7:id∈rr)(r:RowOb)(hr:vw.sw id=ZA r):∃s,j.s id=ZA s/\SlOk ρ base w s r:=by obtain⟨h1,h2⟩:=Vw.sw_some hr;obtain⟨s,h3,h4,_⟩:=h id E7 r h1;exact⟨s,h3,h4.1 h2⟩
def jI(cs:List C)(o:Nat):Bool:=(cs.getD o .undef).solid
def Mo(hw:World->Prop)(ρ:Env)(j:J)(w:World)(fb:Nat->Option (List C)):Prop:=hw w/\
 ∀b cs,fb b=ZA cs->∃k vs,j.f b=ZA k/\k<w.heap.size/\Ad ρ j cs=ZA vs/\∀o v,vs[o]? =ZA v->jI cs o=ZB->w.cell? ⟨k,o,ZD⟩=ZA v
def J.putS(j:J)(id:Nat)(s:SV):J:={j with s:=fun b=>if b=id then ZA s else j.s b}
def Gh.setz(g:Gh)(l:Nat)(x:Option Obj):Gh:=⟨g.y,fun k=>if k=l then x else g.z k⟩
def J.setz(j:J)(l:Nat)(x:Option Obj):J:={j with g:=j.g.setz l x}
def J.addz(j:J):List (Nat×Obj)->J
 |[]=>j
 |p::_=>j.setz p.1 (ZA p.2)
def Gh.setzs(g:Gh)(l:List (Nat×Obj)):Gh:=⟨g.y,fun k=>match l.find? (fun p=>ZI p.1 k)with|some p=>ZA p.2|none=>g.z k⟩
def J.addzs(j:J):List (Nat×Obj)->J
 |[]=>j
 |l=>{j with g:=j.g.setzs l}
def asp(j:J)(l:List (Nat×Obj)):(j.addzs l).s=j.s:=by cases l<;>rfl
def ajL(j:J)(l:List (Nat×Obj)):(j.addzs l).s=j.s/\(j.addzs l).b=j.b/\(j.addzs l).f=j.f/\(j.addzs l).g.y=j.g.y:=by cases l<;>exact⟨rfl,rfl,rfl,rfl⟩
def TR(j:J)(l:List (Nat×Obj))(k:Nat):(j.addzs l).g.z k=match l.find? (fun p=>ZI p.1 k)with|some p=>ZA p.2|none=>j.g.z k:=by cases l<;>rfl
def rI{j:J}{k:Nat}{o:Obj}(h:(j.addzs l).g.z k=ZA o):(k,o)∈l\/((∀p∈l,p.1≠k)/\j.g.z k=ZA o):=by
 rw[TR]at h;split at h
 next p hp=>cases h;have h1:=List.mem_of_find?_eq_some hp;have h2:p.1=k:=Ah (by simpa using List.find?_some hp);rw[<-h2];exact .inl h1
 next hn=>refine .inr ⟨fun p hp e=> ?_,h⟩;have:=List.find?_eq_none.1 hn p hp;rw[e]at this;simp at this
def jc{j:J}{k:Nat}(h:∀p∈l,p.1≠k):(j.addzs l).g.z k=j.g.z k:=by
 rw[TR];split
 next p hp=>exact ak (Ah (n:=p.1) (m:=k) (by simpa using List.find?_some hp)) (h p (List.mem_of_find?_eq_some hp))
 .rfl
def ajK{j:J}(hf:∀p∈l,∀q∈l,p.1=q.1->p.2=q.2){p:Nat×Obj}(hp:p∈l):(j.addzs l).g.z p.1=ZA p.2:=by
 rw[TR];split
 next q hq=>rw[hf q (List.mem_of_find?_eq_some hq) p hp (Ah (n:=q.1) (m:=p.1) (by simpa using List.find?_some hq))]
 next hn=>have:=List.find?_eq_none.1 hn p hp;simp at this
def J.putL(j:J)(nid:Nat)(l:List SV):J:={j with s:=fun b=>if nid<=b then(match l[b-nid]? with|some u=>ZA u|none=>j.s b)else j.s b}
def Mn(ρ:Env)(base nid:Nat)(eff:Eff)(j:J)(w:World)(j':J)(w':World):Prop:=
 match eff.al with
 |some (cs,ty)=>∃vs,Ad ρ j cs=ZA vs/\w'=w.alloc (.cells vs.toArray ty)/\j'={j with b:=fun b=>if b=nid then ZA w.heap.size else j.b b}
 |none=>match eff.re with
   |.none=>j'=j/\∃w1,Ext w w1/\tE ρ j eff.wr w1 w'
   |.set id r=>j'=j/\∃s,j.s id=ZA s/\w.grownBy w' s.v.ownBlock/\RowOk ρ base w' s r/\r.kd≠.tab
   | .mk rs=>Ext w w'/\∃svs:List SV,svs.length=rs.length/\(∀(i:Nat) u r,svs[i]? =ZA u->rs[i]? =ZA r->RowOk ρ w.heap.size w' u r/\r.own=ZB/\(r.kd=.tab->∀jj,TbAt ρ jj w' u r))/\
    (∀(i i':Nat) u u' k,svs[i]? =ZA u->svs[i']? =ZA u'->u.v.ownBlock=ZA k->u'.v.ownBlock=ZA k->i=i')/\(∀u∈svs,NewZ w w' svs u)/\j'=(j.putL nid svs).addzs (svs.flatMap (·.z))
   |.app old r=>∃s s',j.s old=ZA s/\w.grownBy w' s.v.ownBlock/\RowOk ρ base w' s' r/\(s'.v.ownBlock=s.v.ownBlock\/s'.v.ownBlock=ZA w.heap.size)/\Zin j s'/\j'=j.putS nid s'/\r.kd≠.tab
   |.view old q r=>w'=w/\∃s s',j.s old=ZA s/\RowOk ρ base w s q/\RowOk ρ base w s' r/\(∀k,s'.blk ZC=ZA k->s.blk ZC=ZA k)/\Zin j s'/\j'=j.putS nid s'/\q.kd≠.tab/\r.kd≠.tab
   |.peek r=>w'=w/\∃s',RowOk ρ base w s' r/\(∀k,s'.blk ZC=ZA k->∃o,j.g.z k=ZA o/\B6 o=ZB)/\s'.z=[]/\j'=j.putS nid s'/\r.kd≠.tab
   |.frz old q r=>Ext w w'/\∃s s',j.s old=ZA s/\RowOk ρ base w s q/\RowOk ρ base w' s' r/\(∀k,s'.v.ownBlock=ZA k->w.heap.size<=k)/\s'.z.length<=1/\(∀p∈s'.z,w.heap[p.1]? =ZA p.2/\B6 p.2=ZB/\s.v.ownBlock=ZA p.1)/\j'=(j.putS nid s').addz s'.z/\q.kd≠.tab/\r.kd≠.tab
   |.tset old q tab r=>∃s st k o,j.s old=ZA s/\j.s tab=ZA st/\RowOk ρ base w s q/\RowOk ρ base w' st r/\s.v.ownBlock=ZA k/\w.heap[k]? =ZA o/\B6 o=ZB/\w.grownBy w' st.v.ownBlock/\j'=j.addz [(k,o)]/\TbAt ρ j' w' st r/\q.kd≠.tab
def OpOk(P:Program)(hw:World->Prop)(ρ:Env)(base:Nat)(vw:Vw)(o:Oper)(eff:Eff):Prop:=
 ∀(j:J) (a:Act) (w:World),base<=w.heap.size->(∀x∈o.op.operands.toList,∀v,vw.ev x=ZA v->v.den ρ j=ZA (a.eval x))->Fb ρ j w vw.ld eff.rd->KQ j w eff.wr->RrOk ρ base j w vw.rw eff.rr->Mo hw ρ j w vw.fb->
  ∀(K:Act->World->Prop) (Q:Exit->Act->World->Prop),(∀v j' w',eff.val.den ρ j'=ZA v->Mn ρ base vw.nid eff j w j' w'->K (a.put o.dst v) w')->o.wp P a w K Q
def cf{P:Program}{o:Oper}{a:Act}{v:Value}{K:Act->World->Prop}{Q:Exit->Act->World->Prop}(h:(execOp a.eval o).run P w=.ok (.value v) w')(hk:K (a.put o.dst v) w'):o.wp P a w K Q:=by unfold Oper.wp;rw[h];exact hk
def rV{P:Program}{o:Oper}{a:Act}{K:Act->World->Prop}{Q:Exit->Act->World->Prop}(h:(execOp a.eval o).run P w=.ok .skip w')(hk:K (a.put o.dst undef) w'):o.wp P a w K Q:=by unfold Oper.wp;rw[h];exact hk
section
variable {P:Program}{ρ:Env}{base:Nat}{vw:Vw}{ld:Nat->Nat->Option C}{o:Oper}
def OpOk.pure{hw:World->Prop}{v:V}{rd:List (Nat×Nat)}{rr:List Nat} (h:∀(j:J) (a:Act) (w:World),base<=w.heap.size->(∀x∈o.op.operands.toList,∀v,vw.ev x=ZA v->v.den ρ j=ZA (a.eval x))->Fb ρ j w vw.ld rd->RrOk ρ base j w vw.rw rr->Mo hw ρ j w vw.fb->
  ∃u,v.den ρ j=ZA u/\(execOp a.eval o).run P w=.ok (.value u) w):OpOk P hw ρ base vw o {val:=v,rd:=rd,rr:=rr}:=by
 intro j a w hb Ao A9 _ A3 Du K Q hK;obtain⟨u,hu,hr⟩:=h j a w hb Ao A9 A3 Du;exact cf hr (hK u j w hu ⟨rfl,w,Ext.refl w,rfl⟩)
def ey{j:J}{b k:Nat}(hj:j.b b=ZA k):∀(n o:Nat) (cs:List C),jO ld b o n=ZA cs->∀(w:World),Fb ρ j w ld (ed b o n)->∀(a:Addr) (i:Nat) (KH:Array Value),(∀m,a.add (i+m)=⟨k,o+m,ZD⟩)->
  ∃vs,Ad ρ j cs=ZA vs/\(loadCellsFrom a i n KH).run P w=.ok (KH++vs.toArray) w
 |0,o,cs,h,w,A9,a,i,KH,ha=>by cases h;exact⟨[],rfl,by simp[loadCellsFrom]⟩
 |n+1,o,cs,h,w,A9,a,i,KH,ha=>by
   simp only[jO]at h;cases hc:ld b o with
   |none=>rw[hc]at h;cases h
   |some c=>
     cases hl:jO ld b (o+1) n with
     |none=>rw[hc,hl]at h;cases h
     |some l=>rw[hc,hl]at h;cases h;obtain⟨k',v,BZ,hv,By⟩:=A9 (b,o) (by simp[ed]) c hc;simp only at BZ By;rw[hj]at BZ;cases BZ;obtain⟨vs,h1,h2⟩:=ey hj n (o+1) l hl w (fun p hp=>A9 p (by simp[ed];exact .inr hp)) a (i+1) (KH.push v) (fun m=>by rw[ZU,Nat.add_comm 1 m,<-ZU,ZU,ha (m+1)];congr 1;omega);refine⟨v::vs,by simp[Ad,hv,h1],?_⟩;have K4:=ha 0;simp only[ZP]at K4;simp only[loadCellsFrom,K4,ZH,load,Sem.run,By,Result.andThen_ok,h2];simp
def ahB{cx:Cx}(hT:∀t i,(t,i)∈cx.ty->TIok P t i){cs:List C}{v:V}(h:Oz cx ft cs off=ZA v){j:J}(EP:Ad ρ j cs=ZA vs)(w:World):
  ∃u,v.den ρ j=ZA u/\(part ft vs.toArray off).run P w=.ok u w:=by
 unfold Oz at h;split at h
 .rename_i i hi;have ht:=hT _ _ (af hi);split at h
  .rename_i Bh;split at h
   .rename_i AE;cases h;have h1:=ng (kg EP off) i.size;refine⟨.agg ((vs.drop off).take i.size).toArray,by simp only[V.den,h1,ZK],?_⟩;have h2:vs.toArray.extract off (off+i.size)=((vs.drop off).take i.size).toArray:=by
     simp[List.extract_eq_take_drop]
    simp only[part,ZH,ht.agg,Bh,Result.andThen_ok,aW,ht.size,h2,Sem.run_pure]
   .exact ST
  next Bh=>rw[Av]at h;obtain⟨c,hc,rfl⟩:=h;obtain⟨u,hu,hd⟩:=dH EP off c hc;refine⟨u,hd,?_⟩;have h3:vs.toArray[off]? =ZA u:=XW;simp only[part,ZH,ht.agg,Bh,Result.andThen_ok,h3];simp
 .exact ST
end
section
variable {P:Program}{sp:Spec}{ρ:Env}{G:Env->E->Prop}{I:Nat->List Dt->Prop}{base:Nat}{cx:Cx}{vw:Vw}{o:Oper}{k:Eff->Kw->Tr}
def Sound(P:Program)(sp:Spec)(ρ:Env)(G:Env->E->Prop)(I:Nat->List Dt->Prop)(base:Nat)(cx:Cx)(vw:Vw)(o:Oper)(k:Eff->Kw->Tr)(kw:Kw):Prop:=∃eff Ak,(k eff Ak).holds sp G ρ I/\Good sp cx.sm ρ Ak/\KwGe Ak kw/\OpOk P sp.hw ρ base vw o eff
def Sound.lv{kw Ak:Kw}(h:Sound P sp ρ G I base cx vw o k Ak)(hl:KwGe Ak kw):Sound P sp ρ G I base cx vw o k kw:=by obtain⟨eff,Bn,h1,h2,h3,h4⟩:=h;exact⟨eff,Bn,h1,h2,h3.trans hl,h4⟩
def aa7{kw:Kw}(Ab:o.op=.move x\/o.op=.assign x){v:V}(hv:vw.ev x=ZA v)(h:(k {val:=v} kw).holds sp G ρ I)(hg:Good sp cx.sm ρ kw):Sound P sp ρ G I base cx vw o k kw:=by
 refine⟨_,kw,h,hg,.refl _,OpOk.pure fun j a w _ Ao _ _ _=>⟨a.eval x,?_,?_⟩⟩
 .rcases Ab with Ab|Ab<;>exact Ao x Or v hv
 .rcases Ab with Ab|Ab<;>simp[execOp,Ab]
def af5(hT:∀t i,(t,i)∈cx.ty->TIok P t i){kw:Kw}(Ab:o.op=.alloc t){i:TI}(hi:aj t cx.ty=ZA i)(h:(k {val:=.one (.ptr vw.nid 0),al:=ZA (i.zero,t)} kw).holds sp G ρ I)(hg:Good sp cx.sm ρ kw):
  Sound P sp ρ G I base cx vw o k kw:=by
 refine⟨_,kw,h,hg,.refl _,fun j a w _ Ao A9 BS _ _ K Q hK=> ?_⟩;obtain⟨z,hz,hd⟩:=(hT _ _ (af hi)).zero;refine cf (w':=w.alloc (.cells z.cells t)) (v:=.pointer (ZA ⟨w.heap.size,0,ZD⟩)) ?_ (hK _ {j with b:=fun b=>if b=vw.nid then ZA w.heap.size else j.b b} _ ?_ ?_)
 .exact XG
 .simp[V.den,C.den]
 .exact⟨z.cells.toList,hd ρ j,by simp,rfl⟩
def ap2{kw:Kw}(Ab:o.op=.box t x){v:V}(hv:vw.ev x=ZA v)(hf:v.flat=ZB)(h:(k {val:=.one (.ptr vw.nid 0),al:=ZA (v.cells,t)} kw).holds sp G ρ I)(hg:Good sp cx.sm ρ kw):
  Sound P sp ρ G I base cx vw o k kw:=by
 refine⟨_,kw,h,hg,.refl _,fun j a w _ Ao A9 BS _ _ K Q hK=> ?_⟩;have hd:=V.cells_ok (Ao x Or v hv) hf;refine cf (w':=w.alloc (.cells (a.eval x).cells t)) (v:=.pointer (ZA ⟨w.heap.size,0,ZD⟩)) ?_ (hK _ {j with b:=fun b=>if b=vw.nid then ZA w.heap.size else j.b b} _ ?_ ?_)
 .simp[execOp,Ab,Instr.box,ZH,newVar,newRow,newObj,Sem.run]
 .simp[V.den,C.den]
 .exact⟨_,hd,by simp,rfl⟩
def kU{j:J}{v:Value}(h:(V.one (.ptr b off)).den ρ j=ZA v):∃kk,j.b b=ZA kk/\v=.pointer (ZA ⟨kk,off,ZD⟩):=by simp only[V.den,C.den,Av]at h;obtain⟨kk,hk,rfl⟩:=h;exact⟨kk,hk,rfl⟩
def bw(kk off m:Nat):(⟨kk,off,ZD⟩:Addr).add m=⟨kk,off+m,ZD⟩:=by
 unfold Addr.add;split
 next h=>subst h;rfl
 .rfl
def wg(hT:∀t i,(t,i)∈cx.ty->TIok P t i){kw:Kw}(Ab:o.op=.load t x)(hx:vw.ev x=ZA (.one (.ptr b off))){i:TI}(hi:aj t cx.ty=ZA i)(Bh:i.agg=ZB){cs:List C}(CJ:jO vw.ld b off i.size=ZA cs)(h:(k {val:=.agg cs,rd:=ed b off i.size} kw).holds sp G ρ I)(hg:Good sp cx.sm ρ kw):Sound P sp ρ G I base cx vw o k kw:=by
 refine⟨_,kw,h,hg,.refl _,OpOk.pure fun j a w _ Ao A9 _ _=> ?_⟩;have ht:=hT _ _ (af hi);obtain⟨kk,hk,he⟩:=kU (Ao x Or _ hx);obtain⟨vs,h1,h2⟩:=ey (P:=P) hk i.size off cs CJ w A9 ⟨kk,off,ZD⟩ 0 #[] (fun m=>by rw[bw];simp);refine⟨.agg vs.toArray,by simp only[V.den,h1,ZK],?_⟩;simp[execOp,Ab,he,Instr.loadAt,Instr.sureAddr,ZH,loadVar,ht.agg,Bh,ht.size,loadCells,h2]
def wh(hT:∀t i,(t,i)∈cx.ty->TIok P t i){kw:Kw}(Ab:o.op=.load t x)(hx:vw.ev x=ZA (.one (.ptr b off))){i:TI}(hi:aj t cx.ty=ZA i)(Bh:¬i.agg=ZB){c:C}(hc:vw.ld b off=ZA c)(h:(k {val:=.one c,rd:=[(b,off)]} kw).holds sp G ρ I)(hg:Good sp cx.sm ρ kw):Sound P sp ρ G I base cx vw o k kw:=by
 refine⟨_,kw,h,hg,.refl _,OpOk.pure fun j a w _ Ao A9 _ _=> ?_⟩;have ht:=hT _ _ (af hi);obtain⟨kk,hk,he⟩:=kU (Ao x Or _ hx);obtain⟨k',v,BZ,hv,By⟩:=A9 (b,off) (by simp) c hc;simp only at BZ By;rw[hk]at BZ;cases BZ;have C0:i.agg=ZC:=Yl;refine⟨v,hv,?_⟩;simp[execOp,Ab,he,Instr.loadAt,Instr.sureAddr,ZH,loadVar,ht.agg,C0,load,Sem.run,By]
def dD{j:J}{b kk:Nat}(hj:j.b b=ZA kk)(a:Addr):∀(cs:List C) (off i:Nat) (vs:List Value) (w:World),(∀m,a.add (i+m)=⟨kk,off+m,ZD⟩)->Ad ρ j cs=ZA vs->cs.all C.solid=ZB->KQ j w (eQ b off cs)->
  ∃w',tE ρ j (eQ b off cs) w w'/\(storeCells a vs i).run P w=.ok () w'
 |[],off,i,vs,w,ha,hd,hs,hw=>by cases hd;exact⟨w,rfl,by simp[storeCells]⟩
 |c::cs,off,i,vs,w,ha,hd,hs,hw=>by
   simp only[Ad]at hd;cases hc:c.den ρ j with
   |none=>rw[hc]at hd;cases hd
   |some v=>
     cases hl:Ad ρ j cs with
     |none=>rw[hc,hl]at hd;cases hd
     |some l=>
       rw[hc,hl]at hd;cases hd;simp only[YV,ne]at hs;obtain⟨k',u,BZ,hu,Js⟩:=hw (b,off,c) (by simp[eQ]);simp only at BZ hu Js;rw[hj]at BZ;cases BZ;have hw':KQ j (w.setCell ⟨kk,off,ZD⟩ v) (eQ b (off+1) cs):=by
        intro p hp;obtain⟨k2,u2,Dj,Qw,hf2⟩:=hw p (by simp[eQ];exact .inr hp);by_cases he:(⟨k2,p.2.1,ZD⟩:Addr)=⟨kk,off,ZD⟩
        .refine⟨k2,v,Dj,?_,?_⟩
         .rw[he];exact World.cell?_setCell_same _ _ _ (by rw[<-he];exact Qw)
         .rw[World.frozen?_setCell];exact hf2
        .refine⟨k2,u2,Dj,?_,?_⟩
         .rw[World.cell?_setCell_other _ _ _ _ (fun e=>he e.symm)];exact Qw
         .rw[World.frozen?_setCell];exact hf2
       obtain⟨w',h1,h2⟩:=dD hj a cs (off+1) (i+1) l (w.setCell ⟨kk,off,ZD⟩ v) (fun m=>by rw[ZU,Nat.add_comm 1 m,ha (m+1)];congr 1;omega) hl hs.2 hw';refine⟨w',⟨kk,v,hj,hc,h1⟩,?_⟩;have K4:=ha 0;simp only[ZP]at K4;simp only[storeCells,K4,ZH,run_store P w _ v _ (C.solid_ok hc hs.1),hu,Js,Result.andThen_ok,Bool.false_eq_true,dz];exact h2
def afP(hT:∀t i,(t,i)∈cx.ty->TIok P t i){kw:Kw}(Ab:o.op=.store t x y)(hx:vw.ev x=ZA (.one (.ptr b off))){v:V}(hy:vw.ev y=ZA v){i:TI}(hi:aj t cx.ty=ZA i)(hf:v.flat=ZB)(hn:ZI v.cells.length i.size=ZB)(hs:v.cells.all C.solid=ZB)(h:(k {val:=.one .undef,wr:=eQ b off v.cells} kw).holds sp G ρ I)(hg:Good sp cx.sm ρ kw):Sound P sp ρ G I base cx vw o k kw:=by
 refine⟨_,kw,h,hg,.refl _,fun j a w _ Ao A9 BS _ _ K Q hK=> ?_⟩;have ht:=hT _ _ (af hi);obtain⟨kk,hk,he⟩:=kU (Ao x Or _ hx);have hd:=V.cells_ok (Ao y Or v hy) hf;obtain⟨w',h1,h2⟩:=dD (P:=P) hk ⟨kk,off,ZD⟩ v.cells off 0 _ w (fun m=>by rw[bw];simp) hd hs BS;have BC:(a.eval y).cells.size=i.size:=by have:=aP hd;rw[Array.length_toList,Ah hn]at this;exact this
 refine rV (w':=w') ?_ (hK _ j w' rfl ⟨rfl,w,Ext.refl w,h1⟩);simp[execOp,Ab,he,Instr.storeAt,Instr.sureAddr,ZH,storeVar,ht.size,BC,h2]
def ahv{j:J}{c:C}{v:Value}(hc:(∃b off,c=.ptr b off)\/(∃b off,c=.fp b off)\/(∃id Bj e off,c=.ep id Bj e off))(h:(V.one c).den ρ j=ZA v):∃a,v=.pointer (ZA a):=by
 rcases hc with⟨b,off,rfl⟩|⟨b,off,rfl⟩|⟨id,Bj,e,off,rfl⟩
 .simp only[V.den,C.den,Av]at h;obtain⟨kk,_,rfl⟩:=h;exact⟨_,rfl⟩
 .simp only[V.den,C.den,Av]at h;obtain⟨kk,_,rfl⟩:=h;exact⟨_,rfl⟩
 .simp only[V.den,C.den,cW,SV.elem,Av]at h;obtain⟨s,_,a,_,rfl⟩:=h;exact⟨_,rfl⟩
def gM{kw:Kw}(Ab:o.op=.nilCheck x){c:C}(hx:vw.ev x=ZA (.one c))(hc:((∃b off,c=.ptr b off)\/(∃b off,c=.fp b off)\/(∃id Bj e off,c=.ep id Bj e off))\/∃g,c=.fn g)(h:(k {val:=.one c} kw).holds sp G ρ I)(hg:Good sp cx.sm ρ kw):Sound P sp ρ G I base cx vw o k kw:=by
 refine⟨_,kw,h,hg,.refl _,OpOk.pure fun j a w _ Ao _ _ _=>⟨a.eval x,Ao x Or _ hx,?_⟩⟩;have hd:=Ao x Or _ hx;rcases hc with hc|⟨g,rfl⟩
 .obtain⟨a',he⟩:=ahv hc hd;simp[execOp,Ab,he]
 .have he:a.eval x=.func (.func g) #[] #[]:=by
   exact(YL hd).symm
  simp[execOp,Ab,he]
def ui{kw:Kw}(Ab:o.op=.nilCheck x){fs ps:List (Option (Bool×Nat×Nat))}(hx:vw.ev x=ZA (.one (.clo g fs ps)))(h:(k {val:=.one (.clo g fs ps)} kw).holds sp G ρ I)(hg:Good sp cx.sm ρ kw):Sound P sp ρ G I base cx vw o k kw:=by refine⟨_,kw,h,hg,.refl _,OpOk.pure fun j a w _ Ao _ _ _=>⟨a.eval x,Ao x Or _ hx,?_⟩⟩;have hd:=Ao x Or _ hx;obtain⟨y,z,_,_,he⟩:=gD (show Fh g (fg j fs) (fg j ps)=ZA (a.eval x)from hd);simp[execOp,Ab,he]
def TO{ev:Operand->Option V}{j:J}{a:Act}:∀{l:List Operand} {cs:List (Option (Bool×Nat×Nat))},G6 ev l=ZA cs->(∀x∈l,∀v,ev x=ZA v->v.den ρ j=ZA (a.eval x))->fg j cs=ZA (l.map a.eval)
 |[],cs,h,_=>by cases h;rfl
 |x::l,cs,h,Ao=>by
   have tail:=fun {ds} (hd:G6 ev l=ZA ds)=>TO (j:=j) (a:=a) hd (fun y hy=>Ao y (cm _ hy));simp only[G6]at h;split at h
   next b o ds hx hl=>cases h;have h1:=Ao x bG _ hx;simp only[V.den,C.den]at h1;simp only[fg,Eu,YR,h1,tail hl]
   next b o ds hx hl=>cases h;have h1:=Ao x bG _ hx;simp only[V.den,C.den]at h1;simp only[fg,Eu,YR,h1,tail hl]
   next ds hx hl=>cases h;have h1:=Ao x bG _ hx;simp only[V.den,C.den]at h1;simp only[fg,Eu,YR,h1,tail hl]
   .exact ST
def we{fs ps:Array Operand}{kw:Kw}(Ab:o.op=.makeFunc (.func g) fs ps){x y:List (Option (Bool×Nat×Nat))}(hx:G6 vw.ev fs.toList=ZA x)(hy:G6 vw.ev ps.toList=ZA y)(h:(k {val:=.one (.clo g x y)} kw).holds sp G ρ I)(hg:Good sp cx.sm ρ kw):Sound P sp ρ G I base cx vw o k kw:=by
 refine⟨_,kw,h,hg,.refl _,OpOk.pure fun j a w _ Ao _ _ _=> ?_⟩;have h1:=TO (ρ:=ρ) (j:=j) (a:=a) hx (fun z hz=>Ao z (by simp[Ab,Op.operands];exact .inl (by simpa using hz)));have h2:=TO (ρ:=ρ) (j:=j) (a:=a) hy (fun z hz=>Ao z (by simp[Ab,Op.operands];exact .inr (by simpa using hz)));refine⟨.func (.func g) (fs.map a.eval) (ps.map a.eval),?_,?_⟩
 .simp only[V.den,C.den,h1,h2,Fh];have e:∀(q:Array Operand),(q.toList.map a.eval).toArray=q.map a.eval:=fun q=>by rw[<-Array.toList_map,Array.toArray_toList]
  rw[e,e]
 .simp[execOp,Ab,Instr.makeFunc,ZH]
def bS{j:J}{e:E}{v:Value}(h:(V.one (.int kd e)).den ρ j=ZA v):v=.int kd (e.I ρ):=by exact(YL h).symm
def kq{j:J}{e:E}{v:Value}(h:(V.one (.bool e)).den ρ j=ZA v):v=.bool (e.B ρ):=by exact(YL h).symm
def T3{op:UnOp}{kw:Kw}(Ab:o.op=.unOp op t x){v:V}(hv:vw.ev x=ZA v)
  (h:(match(generalizing:=false) op,v with
   |.not,.one (.bool e)=>k {val:=.one (.bool (eM e))} kw
   |.neg,.one (.int kd e)=>k {val:=.one (.int kd (jU .sub kd (.p 0) e))} kw
   |.xor,.one (.int kd e)=>k {val:=.one (.int kd (jU .xor kd (.p (if kd.signed then -1 else kd.max)) e))} kw
   |_,_=>.stuck 10).holds sp G ρ I) (hg:Good sp cx.sm ρ kw):Sound P sp ρ G I base cx vw o k kw:=by
 split at h
 next e=>refine⟨_,kw,h,hg,.refl _,OpOk.pure fun j a w _ Ao _ _ _=>⟨.bool (!e.B ρ),by simp[V.den,C.den,db],?_⟩⟩;rw[show execOp a.eval o=_ from by simp only[execOp,Ab];rfl];simp[kq (Ao x Or _ hv),Op.unary,ZH]
 next kd e=>refine⟨_,kw,h,hg,.refl _,OpOk.pure fun j a w _ Ao _ _ _=>⟨.int kd (kd.wrap (0-e.I ρ)),by simp[V.den,C.den,uU,Ac,E.I],?_⟩⟩;simp[execOp,Ab,bS (Ao x Or _ hv),Op.unary,Op.intArith,ZH]
 next kd e=>refine⟨_,kw,h,hg,.refl _,OpOk.pure fun j a w _ Ao _ _ _=>⟨.int kd (bits .xor kd (if kd.signed then -1 else kd.max) (e.I ρ)),by simp[V.den,C.den,uU,Ac,E.I],?_⟩⟩;simp[execOp,Ab,bS (Ao x Or _ hv),Op.unary,intBits_xor,ZH]
 .exact ST
def pN(h:Aj kd z=ZB):kd.wrap z=z:=by rw[bl]at h;cases kd<;>simp only[IntKind.min,IntKind.max,IntKind.wrap,YS,ZQ]at * <;>simp at * <;>(try split)<;>omega
def akO(hT:∀t i,(t,i)∈cx.ty->TIok P t i){d:Nat}{kw:Kw}(Ab:o.op=.convert s d x){k0:IntKind}{e:E}(hx:vw.ev x=ZA (.one (.int k0 e))){i is:TI}(hi:aj d cx.ty=ZA i)(Nd:aj s cx.ty=ZA is)(hk:i.ik=ZA kd)(h:(k {val:=.one (.int kd (if e.rng kw.vk kd then e else R1 kd e))} kw).holds sp G ρ I)(hg:Good sp cx.sm ρ kw):Sound P sp ρ G I base cx vw o k kw:=by
 have hd:=(hT _ _ (af hi)).ik kd hk;obtain⟨ds,hs⟩:=(hT _ _ (af Nd)).und;refine⟨_,kw,h,hg,.refl _,OpOk.pure fun j a w _ Ao _ _ _=>⟨.int kd (kd.wrap (e.I ρ)),?_,?_⟩⟩
 .split
  next hr=>simp[V.den,C.den,pN (E.rng_ok hg.vk e hr)]
  .simp[V.den,C.den,aly]
 .simp[execOp,Ab,bS (Ao x Or _ hx),convert,run_underlying hs,run_underlying hd,Conv.intToInt,ZH]
def fN(hT:∀t i,(t,i)∈cx.ty->TIok P t i){f:Nat}{kw:Kw}(Ab:o.op=.fieldAddr s x f){c c':C}(hx:vw.ev x=ZA (.one c)){i:TI}(hi:aj s cx.ty=ZA i)(hf:i.fields[f]? =ZA (fo,ft))(hm:∀j v,c.den ρ j=ZA v->∃a,v=.pointer (ZA a)/\c'.den ρ j=ZA (.pointer (ZA (a.add fo))))(h:(k {val:=.one c'} kw).holds sp G ρ I)(hg:Good sp cx.sm ρ kw):Sound P sp ρ G I base cx vw o k kw:=by
 have ht:=hT _ _ (af hi);refine⟨_,kw,h,hg,.refl _,OpOk.pure fun j a w _ Ao _ _ _=> ?_⟩;obtain⟨p,he,hd⟩:=hm j _ (Ao x Or _ hx);refine⟨_,hd,?_⟩;simp[execOp,Ab,he,ht.fieldAt f fo ft hf,ZH]
def bC(a:Addr)(m n:Nat):(a.add m).add n=a.add (m+n):=by
 unfold Addr.add;by_cases hm:m=0
 .subst hm;simp
 .by_cases hn:n=0
  .subst hn;simp
  .simp[hm,hn,ZU]
def xA{j:J}{v:Value}(h:(C.ptr b off).den ρ j=ZA v):∃a,v=.pointer (ZA a)/\(C.ptr b (off+fo)).den ρ j=ZA (.pointer (ZA (a.add fo))):=by simp only[C.den,Av]at h;obtain⟨kk,hk,rfl⟩:=h;exact⟨_,rfl,by simp[C.den,hk,bw]⟩
def ace{j:J}{v:Value}(h:(C.fp b off).den ρ j=ZA v):∃a,v=.pointer (ZA a)/\(C.fp b (off+fo)).den ρ j=ZA (.pointer (ZA (a.add fo))):=by simp only[C.den,Av]at h;obtain⟨kk,hk,rfl⟩:=h;exact⟨_,rfl,by simp[C.den,hk,bw]⟩
def acf{j:J}{id:Nat}{e:E}{v:Value}(h:(C.ep id Bj e off).den ρ j=ZA v):∃a,v=.pointer (ZA a)/\(C.ep id Bj e (off+fo)).den ρ j=ZA (.pointer (ZA (a.add fo))):=by simp only[C.den,cW,SV.elem,Av]at h;obtain⟨s,hs,a,ha,rfl⟩:=h;exact⟨_,rfl,by simp[C.den,hs,SV.elem,ha,bC,ZU]⟩
def afW(hT:∀t i,(t,i)∈cx.ty->TIok P t i){f:Nat}{kw:Kw}(Ab:o.op=.field s x f){cs:List C}(hx:vw.ev x=ZA (.agg cs)){i:TI}(hi:aj s cx.ty=ZA i)(hf:i.fields[f]? =ZA (fo,ft)){v:V}(hp:Oz cx ft cs fo=ZA v)(h:(k {val:=v} kw).holds sp G ρ I)(hg:Good sp cx.sm ρ kw):Sound P sp ρ G I base cx vw o k kw:=by
 have ht:=hT _ _ (af hi);refine⟨_,kw,h,hg,.refl _,OpOk.pure fun j a w _ Ao _ _ _=> ?_⟩;have hd:=Ao x Or _ hx;simp only[V.den,Av]at hd;obtain⟨vs,EP,he⟩:=hd;obtain⟨u,hu,hr⟩:=ahB hT hp EP w;refine⟨u,hu,?_⟩;simp[execOp,Ab,<-he,ht.field f fo ft hf,hr,ZH]
def pY{n:Nat}{kw:Kw}(Ab:o.op=.extract x n){vs:List (Bool×List C)}(hx:vw.ev x=ZA (.tup vs)){p:Bool×List C}(hp:vs[n]? =ZA p){v:V}(hv:(∃cs,p=(ZB,cs)/\v=.agg cs)\/∃c,p=(ZC,[c])/\v=.one c)(h:(k {val:=v} kw).holds sp G ρ I)(hg:Good sp cx.sm ρ kw):Sound P sp ρ G I base cx vw o k kw:=by
 refine⟨_,kw,h,hg,.refl _,OpOk.pure fun j a w _ Ao _ _ _=> ?_⟩;have hd:=Ao x Or _ hx;simp only[V.den,Av]at hd;obtain⟨us,Lf,he⟩:=hd;obtain⟨u,hu,hr⟩:=yc Lf n p hp;refine⟨u,?_,?_⟩
 .rcases hv with⟨cs,rfl,rfl⟩|⟨c,rfl,rfl⟩<;>exact hr
 .simp[execOp,Ab,<-he,Instr.extract,hu,ZH]
def iF{ev:Operand->Option V}{j:J}{a:Act}:∀{l:List Operand} {vs:List V},DM ev l=ZA vs->(∀x∈l,∀v,ev x=ZA v->v.den ρ j=ZA (a.eval x))->(∀(i:Nat) x u,vs[i]? =ZA x->(l.map a.eval)[i]? =ZA u->x.den ρ j=ZA u)/\(l.map a.eval).length=vs.length
 |[],vs,h,Ao=>by cases h;exact⟨fun i x u hx=>by simp at hx,rfl⟩
 |x::l,vs,h,Ao=>by
   simp only[DM]at h;cases hc:ev x with
   |none=>rw[hc]at h;cases h
   |some v=>
     cases hl:DM ev l with
     |none=>rw[hc,hl]at h;cases h
     |some us=>
       rw[hc,hl]at h;cases h;obtain⟨h1,h2⟩:=iF hl (fun y hy=>Ao y (cm _ hy));refine⟨fun i y u hy hu=> ?_,by simp[h2]⟩;cases i with
       |zero=>simp at hy hu;subst hy hu;exact Ao x bG v hc
       |succ i=>exact h1 i y u Yu XW
end
section
variable {P:Program}{sp:Spec}{ρ:Env}{G:Env->E->Prop}{I:Nat->List Dt->Prop}{base:Nat}{cx:Cx}{vw:Vw}{o:Oper}{k:Eff->Kw->Tr}
def afU{kw:Kw}(Ab:o.op=.binOp op xt x y yt){a b:E}(hx:vw.ev x=ZA (.one (.int k1 a)))(hy:vw.ev y=ZA (.one (.int k2 b))){v:V}{u:Value}(hv:∀j,v.den ρ j=ZA u)(hr:∀w,(binOp op xt (.int k1 (a.I ρ)) (.int k2 (b.I ρ))).run P w=.ok u w)(h:(k {val:=v} kw).holds sp G ρ I)(hg:Good sp cx.sm ρ kw):Sound P sp ρ G I base cx vw o k kw:=by
 refine⟨_,kw,h,hg,.refl _,OpOk.pure fun j ac w _ Ao _ _ _=>⟨u,hv j,?_⟩⟩;have h1:=bS (Ao x Or _ hx);have h2:=bS (Ao y Or _ hy);have h3:=hr w;simp[execOp,Ab,h1,h2,eqGuard_at_int,h3,ZH]
def wt{kw:Kw}(Ab:o.op=.binOp op xt x y yt){a b:E}(hx:vw.ev x=ZA (.one (.bool a)))(hy:vw.ev y=ZA (.one (.bool b))){v:V}{u:Value}(hv:∀j,v.den ρ j=ZA u)(hr:∀w,(binOp op xt (.bool (a.B ρ)) (.bool (b.B ρ))).run P w=.ok u w)(h:(k {val:=v} kw).holds sp G ρ I)(hg:Good sp cx.sm ρ kw):Sound P sp ρ G I base cx vw o k kw:=by
 refine⟨_,kw,h,hg,.refl _,OpOk.pure fun j ac w _ Ao _ _ _=>⟨u,hv j,?_⟩⟩;have h1:=kq (Ao x Or _ hx);have h2:=kq (Ao y Or _ hy);have h3:=hr w;simp[execOp,Ab,h1,h2,eqGuard_at_bool,h3,ZH]
def aa8(hT:∀t i,(t,i)∈cx.ty->TIok P t i)(Bg:op=.eql\/op=.neq){kw:Kw}(Ab:o.op=.binOp op xt x y yt){cs ds:List C}(hx:vw.ev x=ZA (.agg cs))(hy:vw.ev y=ZA (.agg ds)){i:TI}(hi:aj xt cx.ty=ZA i)(hq:i.eqok=ZB)(EX:dU cs i.zero=ZB/\cs.all (C.rng kw.vk)=ZB)(Dj:dU ds i.zero=ZB/\ds.all (C.rng kw.vk)=ZB){e:E}(he:vn (asB cx) cs ds=ZA e)(h:(k {val:=.one (.bool (if op=.eql then e else eM e))} kw).holds sp G ρ I)(hg:Good sp cx.sm ρ kw):Sound P sp ρ G I base cx vw o k kw:=by
 have ht:=hT _ _ (af hi);refine⟨_,kw,h,hg,.refl _,OpOk.pure fun j ac w _ Ao _ _ _=>⟨.bool (if op=.eql then e.B ρ else !e.B ρ),?_,?_⟩⟩
 .rcases Bg with rfl|rfl<;>simp[V.den,C.den,db]
 .obtain⟨vs,us,h1,h2,h3,h4⟩:=ad4 (ρ:=ρ) (j:=j) he;have H3:=Ao x Or _ hx;have KJ:=Ao y Or _ hy;simp only[V.den,h1,h2,ZK,aU]at H3 KJ;have h5:=ht.eq hq vs us (mQ hg.vk EX.1 EX.2 h1) (mQ hg.vk Dj.1 Dj.2 h2) w;have h6:(eqGuard op xt x y (.agg vs.toArray) (.agg us.toArray)).run P w=.ok () w:=by
   rcases Bg with rfl|rfl<;>simp[eqGuard,program,ZH,Sem.run,ht.grd hq]
  rcases Bg with rfl|rfl<;>simp[execOp,Ab,<-H3,<-KJ,h6,binOp,h5,h4,ZH]
def uq(Bg:op=.eql\/op=.neq){kw:Kw}(Ab:o.op=.binOp op xt x y yt){c d:C}(hx:vw.ev x=ZA (.one c))(hy:vw.ev y=ZA (.one d)){X Y:Value}(hX:∀j,c.den ρ j=ZA X)(hY:∀j,d.den ρ j=ZA Y)(hXY:(∃f,X=.func f #[] #[])\/X=.nilFunc)(hYn:Y=.nilFunc){r:Bool}(he:∀w,(Op.equal xt X Y).run P w=.ok r w)(h:(k {val:=.one (.bool (.tt (if op=.eql then r else !r)))} kw).holds sp G ρ I)(hg:Good sp cx.sm ρ kw):Sound P sp ρ G I base cx vw o k kw:=by
 refine⟨_,kw,h,hg,.refl _,OpOk.pure fun j ac w _ Ao _ _ _=>⟨.bool (if op=.eql then r else !r),by simp[V.den,C.den,E.B],?_⟩⟩;have H3:(V.one c).den ρ j=ZA (ac.eval x):=Ao x Or _ hx;have KJ:(V.one d).den ρ j=ZA (ac.eval y):=Ao y Or _ hy;have h1:ac.eval x=X:=(YL ((hX j).symm.trans H3)).symm;have h2:ac.eval y=Y:=(YL ((hY j).symm.trans KJ)).symm;have h3:=he w;subst hYn;rcases hXY with⟨f,rfl⟩|rfl
 .rcases Bg with rfl|rfl<;>simp[execOp,Ab,h1,h2,eqGuard,binOp,h3,ZH]
 .rcases Bg with rfl|rfl<;>simp[execOp,Ab,h1,h2,eqGuard,binOp,h3,ZH]
def af1(Bg:op=.eql\/op=.neq){kw:Kw}(Ab:o.op=.binOp op xt x y yt){fs ps:List (Option (Bool×Nat×Nat))}(hx:vw.ev x=ZA (.one (.clo g fs ps)))(hy:vw.ev y=ZA (.one .nf))(he:∀f a b w,(Op.equal xt (.func (.func f) a b) .nilFunc).run P w=.ok ZC w)(h:(k {val:=.one (.bool (.tt (if op=.eql then ZC else ZB)))} kw).holds sp G ρ I)(hg:Good sp cx.sm ρ kw):Sound P sp ρ G I base cx vw o k kw:=by
 refine⟨_,kw,h,hg,.refl _,OpOk.pure fun j ac w _ Ao _ _ _=>⟨.bool (if op=.eql then ZC else ZB),by simp[V.den,C.den,E.B],?_⟩⟩;have H3:(V.one (.clo g fs ps)).den ρ j=ZA (ac.eval x):=Ao x Or _ hx;have KJ:(V.one .nf).den ρ j=ZA (ac.eval y):=Ao y Or _ hy;have h2:ac.eval y=.nilFunc:=(YL KJ).symm;have h1:∃f a b,ac.eval x=.func (.func f) a b:=by
  simp only[V.den,C.den,Fh]at H3;split at H3
  .exact⟨_,_,_,(YL H3).symm⟩
  .cases H3
 obtain⟨f,a,b,h1⟩:=h1;have h3:=he f a b w;rcases Bg with rfl|rfl<;>simp[execOp,Ab,h1,h2,eqGuard,binOp,h3,ZH]
def adV(h:Aj kd z=ZB)(hs:kd.signed=ZC):0<=z:=by rw[bl]at h;cases kd<;>simp only[IntKind.min,ZQ]at * <;>simp at * <;>omega
def qM{x y:Int}:(if y<x then y else x)=min x y/\(if y>x then y else x)=max x y:=by constructor<;>split<;>omega
def dC{kw:Kw}(Ab:o.op=.binOp op xt x y yt){a b:E}(hx:vw.ev x=ZA (.one (.int k1 a)))(hy:vw.ev y=ZA (.one (.int k2 b)))(hr:∀w,(binOp op xt (.int k1 (a.I ρ)) (.int k2 (b.I ρ))).run P w=.ok (.int k1 (Ac op k1 (a.I ρ) (b.I ρ))) w)(h:(k {val:=.one (.int k1 (jU op k1 a b))} kw).holds sp G ρ I)(hg:Good sp cx.sm ρ kw):Sound P sp ρ G I base cx vw o k kw:=
 afU Ab hx hy (fun j=>by simp[V.den,C.den,uU]) hr h hg
def nK{kw:Kw}(Ab:o.op=.binOp op xt x y yt){a b e:E}(hx:vw.ev x=ZA (.one (.int k1 a)))(hy:vw.ev y=ZA (.one (.int k2 b)))(hr:∀w,(binOp op xt (.int k1 (a.I ρ)) (.int k2 (b.I ρ))).run P w=.ok (.bool (e.B ρ)) w)(h:(k {val:=.one (.bool e)} kw).holds sp G ρ I)(hg:Good sp cx.sm ρ kw):Sound P sp ρ G I base cx vw o k kw:=
 afU Ab hx hy (fun j=>by simp[V.den,C.den]) hr h hg
def dq(a b:Int):decide (a<=b) = !decide (b<a):=by by_cases h:a<=b<;>simp[h]<;>omega
def wd{kw:Kw}(Ab:o.op=.binOp op xt x y yt)(ho:op=.shl\/op=.shr){a b:E}(hx:vw.ev x=ZA (.one (.int k1 a)))(hy:vw.ev y=ZA (.one (.int k2 b)))
  (h:(if k2.signed then AB (A8 b (.p 0)) (fun neg kw=>if neg then .panic else k {val:=.one (.int k1 (jU op k1 a b))} kw) kw
   else if b.rng kw.vk k2 then k {val:=.one (.int k1 (jU op k1 a b))} kw else .stuck 11:Tr).holds sp G ρ I) (hg:Good sp cx.sm ρ kw):Sound P sp ρ G I base cx vw o k kw:=by
 have hr:¬b.I ρ<0->∀w,(binOp op xt (.int k1 (a.I ρ)) (.int k2 (b.I ρ))).run P w=.ok (.int k1 (Ac op k1 (a.I ρ) (b.I ρ))) w:=by intro hb w;rcases ho with rfl|rfl<;>simp[binOp,Op.shift,hb,Ac]
 split at h
 .obtain⟨Ak,h1,g1,_,l1⟩:=aC _ _ _ h hg;rw[cC]at h1;split at h1
  .exact h1.elim
  next hb=>exact(dC Ab hx hy (hr (fun Ap=>hb (cP Ap))) h1 g1).lv l1
 .rename_i hsg;split at h
  next hrg=>have:=adV (E.rng_ok hg.vk b hrg) (by simpa using hsg);exact dC Ab hx hy (hr Fn) h hg
  .exact h.elim
def af0{kw:Kw}(Ab:o.op=.binOp op xt x y yt)(ho:op=.quo\/op=.rem){a b:E}(hx:vw.ev x=ZA (.one (.int k1 a)))(hy:vw.ev y=ZA (.one (.int k1 b)))(h:(AB (FX b (.p 0)) (fun z kw=>if z then .panic else k {val:=.one (.int k1 (jU op k1 a b))} kw) kw:Tr).holds sp G ρ I)(hg:Good sp cx.sm ρ kw):Sound P sp ρ G I base cx vw o k kw:=by
 obtain⟨Ak,h1,g1,_,l1⟩:=aC _ _ _ h hg;rw[qL]at h1;split at h1
 .exact h1.elim
 .rename_i hb;have D8:¬b.I ρ=0:=by simpa[E.I]using hb
  refine(dC Ab hx hy (fun w=> ?_) h1 g1).lv l1;rcases ho with rfl|rfl<;>simp[Ac,binOp_quo,binOp_rem,Op.intDiv,D8]
def ap3(hT:∀t i,(t,i)∈cx.ty->TIok P t i){kw:Kw}(Ab:o.op=.binOp op xt x y yt){v u:V}(hx:vw.ev x=ZA v)(hy:vw.ev y=ZA u)(h:(MG cx op xt v u kw k).holds sp G ρ I)(hg:Good sp cx.sm ρ kw):Sound P sp ρ G I base cx vw o k kw:=by
 unfold MG at h;split at h
 .split at h
  .exact wd Ab (.inl rfl) hx hy h hg
  .exact wd Ab (.inr rfl) hx hy h hg
  .split at h
   .rename_i hk;have BZ:=av hk;subst BZ;split at h
    .exact dC Ab hx hy (fun w=>by simp[Ac,binOp_add,Op.intArith]) h hg
    .exact dC Ab hx hy (fun w=>by simp[Ac,binOp_sub,Op.intArith]) h hg
    .exact dC Ab hx hy (fun w=>by simp[Ac,binOp_mul,Op.intArith]) h hg
    .exact dC Ab hx hy (fun w=>by simp[Ac,binOp_and,intBits_and]) h hg
    .exact dC Ab hx hy (fun w=>by simp[Ac,binOp_or,intBits_or]) h hg
    .exact dC Ab hx hy (fun w=>by simp[Ac,binOp_xor,intBits_xor]) h hg
    .exact dC Ab hx hy (fun w=>by simp[Ac,binOp_andNot,intBits_andNot]) h hg
    .exact af0 Ab (.inl rfl) hx hy h hg
    .exact af0 Ab (.inr rfl) hx hy h hg
    .exact nK Ab hx hy (fun w=>by simp[binOp_eql,qL]) h hg
    .exact nK Ab hx hy (fun w=>by simp[binOp_neq,db,qL];rfl) h hg
    .exact nK Ab hx hy (fun w=>by simp[binOp_lss,cC]) h hg
    .exact nK Ab hx hy (fun w=>by simp only[binOp_leq,db,cC,dq];rfl) h hg
    .exact nK Ab hx hy (fun w=>by simp[binOp_gtr,cC]) h hg
    .exact nK Ab hx hy (fun w=>by simp only[binOp_geq,db,cC,ge_iff_le,dq];rfl) h hg
    .exact h.elim
   .exact h.elim
 .rename_i a b;have eqb:∀(i:TI),aj xt cx.ty=ZA i->i.isb=ZB->∀w,(Op.equal xt (.bool (a.B ρ)) (.bool (b.B ρ))).run P w=.ok (a.B ρ==b.B ρ) w:=by
   intro i hi hb w;have hu:=(hT _ _ (af hi)).isb hb;unfold Op.equal Op.maxDepth Op.equalIn;simp[ZH,run_underlying hu]
  split at h
  .split at h
   .rename_i i hi;split at h
    next hb=>have h3:=eqb i hi hb;exact wt Ab hx hy (u:=.bool (a.B ρ==b.B ρ)) (fun j=>by simp[V.den,C.den,uV]) (fun w=>by simp[binOp,h3,ZH]) h hg
    .exact h.elim
   .exact h.elim
  .split at h
   .rename_i i hi;split at h
    next hb=>have h3:=eqb i hi hb;exact wt Ab hx hy (u:=.bool (!(a.B ρ==b.B ρ))) (fun j=>by simp[V.den,C.den,uV,db]) (fun w=>by simp[binOp,h3,ZH]) h hg
    .exact h.elim
   .exact h.elim
  .exact h.elim
 .split at h
  .rename_i i hi;split at h
   .rename_i hf;have ht:=(hT _ _ (af hi)).fnt hf;split at h
    .exact af1 (.inl rfl) Ab hx hy (fun f a b w=>(ht f a b w).1) h hg
    .exact af1 (.inr rfl) Ab hx hy (fun f a b w=>(ht f a b w).1) h hg
    .exact h.elim
   .exact h.elim
  .exact h.elim
 .rename_i g;split at h
  .rename_i i hi;split at h
   .rename_i hf;have ht:=(hT _ _ (af hi)).fnt hf;split at h
    next h0=>cases h0
    next h0=>cases h0
    .exact uq (.inl rfl) Ab hx hy (fun _=>rfl) (fun _=>rfl) (.inl ⟨_,rfl⟩) rfl (fun w=>(ht g #[] #[] w).1) h hg
    .exact uq (.inr rfl) Ab hx hy (fun _=>rfl) (fun _=>rfl) (.inl ⟨_,rfl⟩) rfl (fun w=>(ht g #[] #[] w).1) h hg
    .exact h.elim
   .exact h.elim
  .exact h.elim
 .split at h
  .rename_i i hi;split at h
   .rename_i hf;have ht:=(hT _ _ (af hi)).fnt hf;split at h
    .exact uq (.inl rfl) Ab hx hy (fun _=>rfl) (fun _=>rfl) (.inr rfl) rfl (fun w=>(ht 0 #[] #[] w).2) h hg
    .exact uq (.inr rfl) Ab hx hy (fun _=>rfl) (fun _=>rfl) (.inr rfl) rfl (fun w=>(ht 0 #[] #[] w).2) h hg
    next h0=>exact ak rfl h0
    next h0=>exact ak rfl h0
    .exact h.elim
   .exact h.elim
  .exact h.elim
 .split at h
  .rename_i i e hi he;split at h
   .rename_i hq;simp only[ne]at hq;split at h
    .exact aa8 hT (.inl rfl) Ab hx hy hi hq.1 ⟨hq.2.1.1,rngs_ok _ kw.vk 0 rfl hq.2.1.2⟩ ⟨hq.2.2.1,rngs_ok _ kw.vk 0 rfl hq.2.2.2⟩ he h hg
    .exact aa8 hT (.inr rfl) Ab hx hy hi hq.1 ⟨hq.2.1.1,rngs_ok _ kw.vk 0 rfl hq.2.1.2⟩ ⟨hq.2.2.1,rngs_ok _ kw.vk 0 rfl hq.2.2.2⟩ he h hg
    .exact h.elim
   .exact h.elim
  .exact h.elim
 .exact h.elim
end
end Go.Proofs.YtgolejfhoefeaabGreatDoor
