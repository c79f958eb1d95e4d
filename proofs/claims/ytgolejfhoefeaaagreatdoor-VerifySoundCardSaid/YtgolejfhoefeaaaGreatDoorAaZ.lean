import Derived.Test.YtgolejfhoefeaaaGreatDoorLib
import Derived.Maps.AppendAt
import Derived.OpenShut
import Derived.Laws.EntriesVeiled
import Derived.Calls
import Derived.Laws.OwnMore
import Derived.Deep.Onto
set_option maxRecDepth 100000
set_option maxHeartbeats 8000000
set_option linter.defProp false
set_option linter.unusedVariables false
set_option linter.unusedSimpArgs false
namespace Go.Proofs.YtgolejfhoefeaaaGreatDoor
open Option renaming some->ZA,none->ZE,map_some->YR
open Bool renaming true->ZB,false->ZC
open Sem renaming run_bind->ZI
open Nat renaming beq->ZJ,le_refl->ZK,add_zero->ZR,add_assoc->ZU
open List renaming replicate->ZM,nil_append->YP,length_cons->YQ,mem_cons->YS,all_cons->YX,mem_append->ZY,length_take->YZ
open Option.some renaming inj->ZN
open Go.IntKind renaming signed->YT,bits->YW
open Go.RowKit
variable {w w':World}{x y:Operand}{base xt yt off i c t b g fo Bt ft s:Nat}{op:BinOp}{k k1 kd k2:IntKind}{r:List Int}{a z:Int}{vs:List Value}{o:Bool}{l:List (Nat×Obj)}
abbrev CE:=Option IntKind
inductive E where
 |p (z:Int)
 |w (n:Nat)
 |f (op:BinOp) (k:IntKind) (a b:E)
 |F (k:IntKind) (a:E)
 |mn (a b:E)
 |mx (a b:E)
 |len (a:E)
 |get (a i:E) (c:Nat)
 |nil
 |cons (a t:E)
 |j (b t:E)
 |N (l t:E)
 |tt (b:Bool)
 |s (n:Nat)
 |lt (a b:E)
 |eq (a b:E)
 |not (a:E)
 |and (a b:E)
 |beq (a b:E)
 |getb (a i:E) (c:Nat)
 |g (n:Nat)
 |ln
 |lset (a i:E) (c:Nat) (x:E)
 |lsetb (a i:E) (c:Nat) (x:E)
 |lq (a r:E)
 |lcat (a b:E)
 |lrep (n r:E)
 |ltake (a n:E)
 |ldrop (a n:E)
 |mix (l key:E)
 |lput (l i r:E)
 |nth (i l:E)
 |ite (c a b:E)
 |leq (a b:E)
 deriving Repr,Inhabited
def amJ:BinOp->BinOp->Bool
 |.add,.add|.sub,.sub|.mul,.mul|.quo,.quo|.rem,.rem|.and,.and|.or,.or|.xor,.xor|.shl,.shl|.shr,.shr|.andNot,.andNot=>ZB
 |_,_=>ZC
def bJ:IntKind->IntKind->Bool
 |.i8,.i8|.i16,.i16|.i32,.i32|.i64,.i64|.u8,.u8|.u16,.u16|.u32,.u32|.u64,.u64=>ZB
 |_,_=>ZC
def ahb{a b:BinOp}(h:amJ a b=ZB):a=b:=by cases a<;>cases b<;>first|rfl|cases h
def ax{a b:IntKind}(h:bJ a b=ZB):a=b:=by cases a<;>cases b<;>first|rfl|cases h
def fH:Int->Int->Bool
 |.ofNat a,.ofNat b=>ZJ a b
 |.negSucc a,.negSucc b=>ZJ a b
 |_,_=>ZC
def cX{b:Int}(h:fH a b=ZB):a=b:=by cases a<;>cases b<;>simp[fH]at h<;>simp[h]
def uV{b:Int}:fH a b=(a==b):=by
 cases h:fH a b with
 |true=>rw[cX h];simp
 |false=>symm;rw[jJ];rintro rfl;cases a<;>simp[fH]at h
def E.same:E->E->Bool
 |.p a,x=>match x with|.p b=>fH a b|_=>ZC
 |.w a,x=>match x with|.w b=>ZJ a b|_=>ZC
 |.f o k a b,x=>match x with|.f o' k' a' b'=>amJ o o'&&(bJ k k'&&(E.same a a'&&E.same b b'))|_=>ZC
 | .F k a,x=>match x with | .F k' a'=>bJ k k'&&E.same a a'|_=>ZC
 |.mn a b,x=>match x with|.mn a' b'=>E.same a a'&&E.same b b'|_=>ZC
 |.mx a b,x=>match x with|.mx a' b'=>E.same a a'&&E.same b b'|_=>ZC
 |.len a,x=>match x with|.len a'=>E.same a a'|_=>ZC
 |.get a i c,x=>match x with|.get a' i' c'=>ZJ c c'&&(E.same a a'&&E.same i i')|_=>ZC
 |.nil,x=>match x with|.nil=>ZB|_=>ZC
 |.cons a b,x=>match x with|.cons a' b'=>E.same a a'&&E.same b b'|_=>ZC
 |.j a b,x=>match x with|.j a' b'=>E.same a a'&&E.same b b'|_=>ZC
 | .N a b,x=>match x with | .N a' b'=>E.same a a'&&E.same b b'|_=>ZC
 |.tt a,x=>match x with|.tt b=>a==b|_=>ZC
 |.s a,x=>match x with|.s b=>ZJ a b|_=>ZC
 |.lt a b,x=>match x with|.lt a' b'=>E.same a a'&&E.same b b'|_=>ZC
 |.eq a b,x=>match x with|.eq a' b'=>E.same a a'&&E.same b b'|_=>ZC
 |.not a,x=>match x with|.not a'=>E.same a a'|_=>ZC
 |.and a b,x=>match x with|.and a' b'=>E.same a a'&&E.same b b'|_=>ZC
 |.beq a b,x=>match x with|.beq a' b'=>E.same a a'&&E.same b b'|_=>ZC
 |.getb a i c,x=>match x with|.getb a' i' c'=>ZJ c c'&&(E.same a a'&&E.same i i')|_=>ZC
 |.g a,x=>match x with|.g b=>ZJ a b|_=>ZC
 |.ln,x=>match x with|.ln=>ZB|_=>ZC
 |.lset a i c y,x=>match x with|.lset a' i' c' y'=>ZJ c c'&&(E.same a a'&&(E.same i i'&&E.same y y'))|_=>ZC
 |.lsetb a i c y,x=>match x with|.lsetb a' i' c' y'=>ZJ c c'&&(E.same a a'&&(E.same i i'&&E.same y y'))|_=>ZC
 |.lq a b,x=>match x with|.lq a' b'=>E.same a a'&&E.same b b'|_=>ZC
 |.lcat a b,x=>match x with|.lcat a' b'=>E.same a a'&&E.same b b'|_=>ZC
 |.lrep a b,x=>match x with|.lrep a' b'=>E.same a a'&&E.same b b'|_=>ZC
 |.ltake a b,x=>match x with|.ltake a' b'=>E.same a a'&&E.same b b'|_=>ZC
 |.ldrop a b,x=>match x with|.ldrop a' b'=>E.same a a'&&E.same b b'|_=>ZC
 |.mix a b,x=>match x with|.mix a' b'=>E.same a a'&&E.same b b'|_=>ZC
 |.leq a b,x=>match x with|.leq a' b'=>E.same a a'&&E.same b b'|_=>ZC
 |.nth a b,x=>match x with|.nth a' b'=>E.same a a'&&E.same b b'|_=>ZC
 |.ite a i y,x=>match x with|.ite a' i' y'=>E.same a a'&&(E.same i i'&&E.same y y')|_=>ZC
 |.lput a i y,x=>match x with|.lput a' i' y'=>E.same a a'&&(E.same i i'&&E.same y y')|_=>ZC
def E.same_eq{a b:E}(h:E.same a b=ZB):a=b:=by
 induction a generalizing b<;>cases b<;>first|exact Bool.noConfusion h|skip
 case p.p=>rw[cX h]
 case w.w=>rw[Ak h]
 case s.s=>rw[Ak h]
 case g.g=>rw[Ak h]
 case nil.nil=>rfl
 case ln.ln=>rfl
 case tt.tt=>rw[E.same,cQ]at h;rw[h]
 case f.f Em En _ _ _ _=>simp only[E.same,ne]at h;obtain⟨h1,h2,h3,h4⟩:=h;rw[ahb h1,ax h2,Em h3,En h4]
 case F.F ih _ _=>simp only[E.same,ne]at h;rw[ax h.1,ih h.2]
 case not.not ih _=>rw[ih h]
 case len.len ih _=>rw[ih h]
 case get.get Em En _ _ _=>simp only[E.same,ne]at h;rw[Ak h.1,Em h.2.1,En h.2.2]
 case getb.getb Em En _ _ _=>simp only[E.same,ne]at h;rw[Ak h.1,Em h.2.1,En h.2.2]
 case lset.lset Em En ih3 _ _ _ _=>simp only[E.same,ne]at h;rw[Ak h.1,Em h.2.1,En h.2.2.1,ih3 h.2.2.2]
 case ite.ite Em En ih3 _ _ _=>simp only[E.same,ne]at h;rw[Em h.1,En h.2.1,ih3 h.2.2]
 case lput.lput Em En ih3 _ _ _=>simp only[E.same,ne]at h;rw[Em h.1,En h.2.1,ih3 h.2.2]
 case lsetb.lsetb Em En ih3 _ _ _ _=>simp only[E.same,ne]at h;rw[Ak h.1,Em h.2.1,En h.2.2.1,ih3 h.2.2.2]
 all_goals
  rename_i Em En _ _;simp only[E.same,ne]at h;rw[Em h.1,En h.2]
def gt(L:LL)(i:Int)(c:Nat):Int:=(L.getD i.toNat []).getD c 0
def st(L:LL)(i:Int)(c:Nat)(x:Int):LL:=L.set i.toNat ((L.getD i.toNat []).set c x)
def Gp(L:LL)(key:List Int):Int:=(L.findIdx fun r=>r.take key.length==key:Nat)
def AD(b:Bool):Int:=if b then 1 else 0
inductive Dt where
 |z (x:Int)
 |l (L:LL)
 deriving Inhabited
structure Env where
 i:Nat->Int
 b:Nat->Bool
 l:Nat->LL
def Ac(op:BinOp)(k:IntKind)(a b:Int):Int:=
 match op with
 |.add=>k.wrap (a+b)
 |.sub=>k.wrap (a-b)
 |.mul=>k.wrap (a*b)
 |.quo=>k.wrap (a.tdiv b)
 |.rem=>a.tmod b
 |.and|.or|.xor|.andNot=>bits op k a b
 |.shl=>k.wrap (a*2 ^ min b.toNat k.bits)
 |.shr=>a.fdiv (2 ^ min b.toNat k.bits)
 |_=>0
mutual
def E.I(U:Env):E->Int
 |.p z=>z
 |.w n=>U.i n
 |.f op k a b=>Ac op k (a.I U) (b.I U)
 | .F k a=>k.wrap (a.I U)
 |.mn a b=>min (a.I U) (b.I U)
 |.mx a b=>max (a.I U) (b.I U)
 |.len a=>((a.R U).length:Int)
 |.get a i c=>gt (a.R U) (i.I U) c
 |.mix l key=>Gp (l.R U) (key.L U)
 |.nth i l=>(l.L U).getD (i.I U).toNat 0
 |.ite c a b=>if c.B U then a.I U else b.I U
 |_=>0
 termination_by structural x=>x
def E.B(U:Env):E->Bool
 |.tt b=>b
 |.s n=>U.b n
 |.lt a b=>decide (a.I U<b.I U)
 |.eq a b=>a.I U==b.I U
 |.not a=>!a.B U
 |.and a b=>a.B U&&b.B U
 |.beq a b=>a.B U==b.B U
 |.getb a i c=>gt (a.R U) (i.I U) c==1
 |.leq a b=>a.R U==b.R U
 |_=>ZC
 termination_by structural x=>x
def E.L(U:Env):E->List Int
 |.cons a t=>a.I U::t.L U
 |.j b t=>AD (b.B U)::t.L U
 |_=>[]
 termination_by structural x=>x
def E.R(U:Env):E->LL
 |.g n=>U.l n
 |.lset a i c x=>st (a.R U) (i.I U) c (x.I U)
 |.lsetb a i c x=>st (a.R U) (i.I U) c (AD (x.B U))
 |.lq a r=>a.R U++[r.L U]
 |.lput a i r=>(a.R U).set (i.I U).toNat (r.L U)
 |.lcat a b=>a.R U++b.R U
 |.lrep n r=>ZM (n.I U).toNat (r.L U)
 |.ltake a n=>(a.R U).take (n.I U).toNat
 |.ldrop a n=>(a.R U).drop (n.I U).toNat
 |_=>[]
 termination_by structural x=>x
end
def E.D(U:Env):E->List Dt
 |.cons a t=>.z (a.I U)::t.D U
 |.j b t=>.z (AD (b.B U))::t.D U
 | .N l t=>.l (l.R U)::t.D U
 |_=>[]
structure SV where
 a:Option Addr
 n:Nat
 c:Nat
 z:List (Nat×Obj)
def SV.v(s:SV):Value:=.slice s.a s.n s.c
def SV.mv(s:SV):Value:=.map (s.a.map (·.block))
def SV.cut(s:SV)(sz l h m:Nat):SV:=⟨if m=l then s.a else s.a.map (·.add (l*sz)),h-l,m-l,[]⟩
def oF(L:LL):ByteArray:=⟨(L.map fun r=>UInt8.ofNat (r.getD 0 0).toNat).toArray⟩
def SV.pv(s:SV):Value:=.pointer (s.a.map fun a=>⟨a.block,0,ZE⟩)
structure Gh where
 y:Nat->Option Nat
 z:Nat->Option Obj
structure J where
 b:Nat->Option Nat
 s:Nat->Option SV
 f:Nat->Option Nat
 g:Gh
def Gh.zero:Gh:=⟨fun _=>Option.none,fun _=>Option.none⟩
def J.zero:J:=⟨fun _=>Option.none,fun _=>Option.none,fun _=>Option.none,Gh.zero⟩
inductive C where
 |int (k:IntKind) (e:E)
 |bool (e:E)
 |ptr (b o:Nat)
 |fp (b o:Nat)
 |fn (f:Nat)
 |np
 |undef
 |sl (id:Nat)
 |ep (id Bt:Nat) (e:E) (off:Nat)
 |nsl
 |nf
 |clo (g:Nat) (fs ps:List (Option (Bool×Nat×Nat)))
 |mp (id:Nat)
 |itp (id mid:Nat)
 |pe (b o n sz:Nat) (e:E) (off:Nat)
 |nmp
 |wn (id sz:Nat) (lo hi:E) (mx:Option E)
 |aw (b o n sz:Nat) (lo hi mx:E)
 |str (e:E)
 |yld (id:Nat)
 deriving Repr,Inhabited
inductive V where
 |one (c:C)
 |agg (cs:List C)
 |tup (vs:List (Bool×List C))
 |top
 deriving Repr,Inhabited
def SV.elem(s:SV)(n:Nat):Option Value:=s.a.map fun a=>.pointer (ZA (a.add n))
def Es(j:J):Option (Bool×Nat×Nat)->Option Value
 |none=>ZA (.pointer ZE)
 |some (ZB,b,o)=>(j.b b).map fun k=>.pointer (ZA ⟨k,o,ZE⟩)
 |some (ZC,b,o)=>(j.f b).map fun k=>.pointer (ZA ⟨k,o,ZE⟩)
def fg(j:J):List (Option (Bool×Nat×Nat))->Option (List Value)
 |[]=>ZA []
 |x::l=>match Es j x,fg j l with
   |some v,ZA vs=>ZA (v::vs)
   |_,_=>ZE
def E8(g:Nat):Option (List Value)->Option (List Value)->Option Value
 |some a,ZA b=>ZA (.func (.func g) a.toArray b.toArray)
 |_,_=>ZE
def gC{a b:Option (List Value)}{v:Value}(h:E8 g a b=ZA v):∃x y,a=ZA x/\b=ZA y/\v=.func (.func g) x.toArray y.toArray:=by cases a<;>cases b<;>simp only[E8]at h<;>cases h;exact⟨_,_,rfl,rfl,rfl⟩
def O3(U:Env)(mx:Option E)(c:Nat):Nat:=match mx with
 |some m=>(m.I U).toNat
 |none=>c
def C.den(U:Env)(j:J):C->Option Value
 |.wn id sz lo hi mx=>(j.s id).map fun s=>(s.cut sz (lo.I U).toNat (hi.I U).toNat (O3 U mx s.c)).v
 |.aw b o n sz lo hi mx=>(j.b b).map fun k=>((⟨ZA ⟨k,o,ZE⟩,n,n,[]⟩:SV).cut sz (lo.I U).toNat (hi.I U).toNat (mx.I U).toNat).v
 |.str e=>ZA (.string (oF (e.R U)))
 |.yld id=>(j.g.y id).map fun l=>.func (.yield l) #[] #[]
 |.int k e=>ZA (.int k (e.I U))
 |.bool e=>ZA (.bool (e.B U))
 |.ptr b o=>(j.b b).map fun k=>.pointer (ZA ⟨k,o,ZE⟩)
 |.fp b o=>(j.f b).map fun k=>.pointer (ZA ⟨k,o,ZE⟩)
 |.pe b o _ sz e off=>(j.b b).map fun k=>.pointer (ZA ⟨k,o+((e.I U).toNat*sz+off),ZE⟩)
 |.sl id=>(j.s id).map SV.v
 |.ep id Bt e off=>(j.s id).bind fun v=>v.elem ((e.I U).toNat*Bt+off)
 |.nsl=>ZA (.slice ZE 0 0)
 |.nf=>ZA .nilFunc
 |.nmp=>ZA (.map ZE)
 |.fn f=>ZA (.func (.func f) #[] #[])
 |.np=>ZA (.pointer ZE)
 |.undef=>ZA Go.undef
 |.clo g fs ps=>E8 g (fg j fs) (fg j ps)
 |.mp id=>(j.s id).map SV.mv
 |.itp id mid=>(j.s id).bind fun s=>(j.s mid).bind fun m=>if m.a=ZA ⟨s.n,0,ZE⟩then ZA s.pv else ZE
def Af(U:Env)(j:J):List C->Option (List Value)
 |[]=>ZA []
 |c::cs=>match c.den U j,Af U j cs with
   |some v,ZA vs=>ZA (v::vs)
   |_,_=>ZE
def BJ(U:Env)(j:J):Bool×List C->Option Value
 |(ZB,cs)=>(Af U j cs).map fun vs=>.agg vs.toArray
 |(ZC,[c])=>c.den U j
 |(ZC,_)=>ZE
def cu(U:Env)(j:J):List (Bool×List C)->Option (List Value)
 |[]=>ZA []
 |c::cs=>match BJ U j c,cu U j cs with
   |some v,ZA vs=>ZA (v::vs)
   |_,_=>ZE
def V.den(U:Env)(j:J):V->Option Value
 |.one c=>c.den U j
 |.agg cs=>(Af U j cs).map fun vs=>.agg vs.toArray
 |.tup vs=>(cu U j vs).map fun vs=>.tuple vs.toArray
 |.top=>ZE
structure Sub(j j':J):Prop where
 b:∀b k,j.b b=ZA k->j'.b b=ZA k
 s:∀b v,j.s b=ZA v->j'.s b=ZA v
 f:∀b k,j.f b=ZA k->j'.f b=ZA k
 y:∀b k,j.g.y b=ZA k->j'.g.y b=ZA k
def Sub.refl(j:J):Sub j j:=⟨fun _ _ h=>h,fun _ _ h=>h,fun _ _ h=>h,fun _ _ h=>h⟩
def Sub.trans{j j' Vf:J}(h:Sub j j')(h':Sub j' Vf):Sub j Vf:=⟨fun b k e=>h'.b b k (h.b b k e),fun b k e=>h'.s b k (h.s b k e),fun b k e=>h'.f b k (h.f b k e),fun b k e=>h'.y b k (h.y b k e)⟩
def Sub.zero(j:J):Sub J.zero j:=⟨fun _ _ h=>Xo,fun _ _ h=>Xo,fun _ _ h=>Xo,fun _ _ h=>Xo⟩
def akD{j j':J}(h:Sub j j'){x:Option (Bool×Nat×Nat)}{v:Value}(hd:Es j x=ZA v):Es j' x=ZA v:=by
 match x,hd with
 |none,hd=>exact hd
 |some (ZB,b,o),hd=>simp only[Es,Ay]at hd ⊢;obtain⟨k,hk,rfl⟩:=hd;exact⟨k,h.b b k hk,rfl⟩
 |some (ZC,b,o),hd=>simp only[Es,Ay]at hd ⊢;obtain⟨k,hk,rfl⟩:=hd;exact⟨k,h.f b k hk,rfl⟩
def qh{j j':J}(h:Sub j j'):∀{l:List (Option (Bool×Nat×Nat))} {vs:List Value},fg j l=ZA vs->fg j' l=ZA vs
 |[],_,hd=>hd
 |x::l,vs,hd=>by
   simp only[fg]at hd ⊢;cases hx:Es j x with
   |none=>rw[hx]at hd;cases hd
   |some v=>
     cases hl:fg j l with
     |none=>rw[hx,hl]at hd;cases hd
     |some us=>rw[hx,hl]at hd;rw[akD h hx,qh h hl];exact hd
def C.den_sub{U:Env}{j j':J}(h:Sub j j'){c:C}{v:Value}(hd:c.den U j=ZA v):c.den U j'=ZA v:=by
 cases c with
 |ptr b o=>simp only[C.den,Ay]at hd ⊢;obtain⟨k,hk,rfl⟩:=hd;exact⟨k,h.b b k hk,rfl⟩
 |fp b o=>simp only[C.den,Ay]at hd ⊢;obtain⟨k,hk,rfl⟩:=hd;exact⟨k,h.f b k hk,rfl⟩
 |sl id=>simp only[C.den,Ay]at hd ⊢;obtain⟨u,hu,rfl⟩:=hd;exact⟨u,h.s id u hu,rfl⟩
 |ep id Bt e off=>simp only[C.den,de]at hd ⊢;obtain⟨u,hu,he⟩:=hd;exact⟨u,h.s id u hu,he⟩
 |wn id sz lo hi mx=>simp only[C.den,Ay]at hd ⊢;obtain⟨u,hu,rfl⟩:=hd;exact⟨u,h.s id u hu,rfl⟩
 |aw b o n sz lo hi mx=>simp only[C.den,Ay]at hd ⊢;obtain⟨u,hu,rfl⟩:=hd;exact⟨u,h.b b u hu,rfl⟩
 |mp id=>simp only[C.den,Ay]at hd ⊢;obtain⟨u,hu,rfl⟩:=hd;exact⟨u,h.s id u hu,rfl⟩
 |yld id=>simp only[C.den,Ay]at hd ⊢;obtain⟨u,hu,rfl⟩:=hd;exact⟨u,h.y id u hu,rfl⟩
 |pe b o n sz e off=>simp only[C.den,Ay]at hd ⊢;obtain⟨u,hu,rfl⟩:=hd;exact⟨u,h.b b u hu,rfl⟩
 |itp id mid=>simp only[C.den,de]at hd ⊢;obtain⟨u,hu,m,hm,he⟩:=hd;exact⟨u,h.s id u hu,m,h.s mid m hm,he⟩
 |clo g fs ps=>obtain⟨x,y,hx,hy,rfl⟩:=gC hd;simp only[C.den,qh h hx,qh h hy,E8]
 |_=>exact hd
def bH{U:Env}{j j':J}(h:Sub j j'):∀{cs:List C} {vs:List Value},Af U j cs=ZA vs->Af U j' cs=ZA vs
 |[],_,hd=>hd
 |c::cs,vs,hd=>by
   simp only[Af]at hd ⊢;cases hc:c.den U j with
   |none=>rw[hc]at hd;cases hd
   |some v=>
     cases hl:Af U j cs with
     |none=>rw[hc,hl]at hd;cases hd
     |some l=>rw[hc,hl]at hd;rw[C.den_sub h hc,bH h hl];exact hd
def alI{U:Env}{j j':J}(h:Sub j j'){p:Bool×List C}{v:Value}(hd:BJ U j p=ZA v):BJ U j' p=ZA v:=by
 obtain⟨t,cs⟩:=p;cases t with
 |true=>simp only[BJ,Ay]at hd ⊢;obtain⟨l,hl,rfl⟩:=hd;exact⟨l,bH h hl,rfl⟩
 |false=>
   match cs,hd with
   |[c],hd=>exact C.den_sub h hd
def xC{U:Env}{j j':J}(h:Sub j j'):∀{cs:List (Bool×List C)} {vs:List Value},cu U j cs=ZA vs->cu U j' cs=ZA vs
 |[],_,hd=>hd
 |c::cs,vs,hd=>by
   simp only[cu]at hd ⊢;cases hc:BJ U j c with
   |none=>rw[hc]at hd;cases hd
   |some v=>
     cases hl:cu U j cs with
     |none=>rw[hc,hl]at hd;cases hd
     |some l=>rw[hc,hl]at hd;rw[alI h hc,xC h hl];exact hd
def am4{U:Env}{j:J}{id mid:Nat}{v:Value}(h:(C.itp id mid).den U j=ZA v):∃s m,j.s id=ZA s/\j.s mid=ZA m/\m.a=ZA ⟨s.n,0,ZE⟩/\v=s.pv:=by
 simp only[C.den,de]at h;obtain⟨u,hu,m,hm,he⟩:=h;split at he
 next hc=>cases he;exact⟨u,m,hu,hm,hc,rfl⟩
 .cases he
def V.den_sub{U:Env}{j j':J}(h:Sub j j'){x:V}{v:Value}(hd:x.den U j=ZA v):x.den U j'=ZA v:=by
 cases x with
 |one c=>exact C.den_sub h hd
 |agg cs=>simp only[V.den,Ay]at hd ⊢;obtain⟨l,hl,rfl⟩:=hd;exact⟨l,bH h hl,rfl⟩
 |tup vs=>simp only[V.den,Ay]at hd ⊢;obtain⟨l,hl,rfl⟩:=hd;exact⟨l,xC h hl,rfl⟩
 |top=>cases hd
def aV{U:Env}{j:J}:∀{cs:List C} {vs:List Value},Af U j cs=ZA vs->vs.length=cs.length
 |[],vs,h=>by cases h;rfl
 |c::cs,vs,h=>by
   simp only[Af]at h;cases hc:c.den U j with
   |none=>rw[hc]at h;cases h
   |some v=>
     cases hl:Af U j cs with
     |none=>rw[hc,hl]at h;cases h
     |some l=>rw[hc,hl]at h;cases h;simp[aV hl]
def dP{U:Env}{j:J}:∀{cs:List C} {vs:List Value},Af U j cs=ZA vs->∀(i:Nat) c,cs[i]? =ZA c->∃v,vs[i]? =ZA v/\c.den U j=ZA v
 |[],vs,h,i,c,hc=>by simp at hc
 |c::cs,vs,h,i,c',Gg=>by
   simp only[Af]at h;cases hc:c.den U j with
   |none=>rw[hc]at h;cases h
   |some v=>
     cases hl:Af U j cs with
     |none=>rw[hc,hl]at h;cases h
     |some l=>
       rw[hc,hl]at h;cases h;cases i with
       |zero=>simp at Gg;subst Gg;exact⟨v,rfl,hc⟩
       |succ i=>exact dP hl i c' (by simpa using Gg)
def uJ{U:Env}{j:J}:∀{cs:List C} {vs:List Value},Af U j cs=ZA vs->∀(i:Nat) (c:C) (v:Value),c.den U j=ZA v->Af U j (cs.set i c)=ZA (vs.set i v)
 |[],vs,h,i,c,v,hv=>by cases h;rfl
 |c::cs,vs,h,i,c',v',CQ=>by
   simp only[Af]at h;cases hc:c.den U j with
   |none=>rw[hc]at h;cases h
   |some v=>
     cases hl:Af U j cs with
     |none=>rw[hc,hl]at h;cases h
     |some l=>
       rw[hc,hl]at h;cases h;cases i with
       |zero=>simp only[List.set_cons_zero,Af,CQ,hl]
       |succ i=>simp only[List.set_cons_succ,Af,hc,uJ hl i c' v' CQ]
def gB{U:Env}{j:J}:∀{cs ds:List C} {vs us:List Value},Af U j cs=ZA vs->Af U j ds=ZA us->Af U j (cs++ds)=ZA (vs++us)
 |[],ds,vs,us,h,h'=>by cases h;exact h'
 |c::cs,ds,vs,us,h,h'=>by
   simp only[Af]at h;cases hc:c.den U j with
   |none=>rw[hc]at h;cases h
   |some v=>
     cases hl:Af U j cs with
     |none=>rw[hc,hl]at h;cases h
     |some l=>rw[hc,hl]at h;cases h;simp only[List.cons_append,Af,hc,gB hl h']
def mV{U:Env}{j:J}:∀{cs:List C} {vs:List Value},Af U j cs=ZA vs->∀(i:Nat),Af U j (cs.take i)=ZA (vs.take i)
 |[],vs,h,i=>by cases h;simp[Af]
 |c::cs,vs,h,i=>by
   simp only[Af]at h;cases hc:c.den U j with
   |none=>rw[hc]at h;cases h
   |some v=>
     cases hl:Af U j cs with
     |none=>rw[hc,hl]at h;cases h
     |some l=>
       rw[hc,hl]at h;cases h;cases i with
       |zero=>rfl
       |succ i=>simp only[List.take_succ_cons,Af,hc,mV hl i]
def ku{U:Env}{j:J}:∀{cs:List C} {vs:List Value},Af U j cs=ZA vs->∀(i:Nat),Af U j (cs.drop i)=ZA (vs.drop i)
 |[],vs,h,i=>by cases h;simp[Af]
 |c::cs,vs,h,i=>by
   have h0:=h;simp only[Af]at h;cases hc:c.den U j with
   |none=>rw[hc]at h;cases h
   |some v=>
     cases hl:Af U j cs with
     |none=>rw[hc,hl]at h;cases h
     |some l=>
       rw[hc,hl]at h;cases h;cases i with
       |zero=>exact h0
       |succ i=>simp only[List.drop_succ_cons];exact ku hl i
def xD{U:Env}{j:J}:∀{cs:List (Bool×List C)} {vs:List Value},cu U j cs=ZA vs->∀(i:Nat) c,cs[i]? =ZA c->∃v,vs[i]? =ZA v/\BJ U j c=ZA v
 |[],vs,h,i,c,hc=>by simp at hc
 |c::cs,vs,h,i,c',Gg=>by
   simp only[cu]at h;cases hc:BJ U j c with
   |none=>rw[hc]at h;cases h
   |some v=>
     cases hl:cu U j cs with
     |none=>rw[hc,hl]at h;cases h
     |some l=>
       rw[hc,hl]at h;cases h;cases i with
       |zero=>simp at Gg;subst Gg;exact⟨v,rfl,hc⟩
       |succ i=>exact xD hl i c' (by simpa using Gg)
inductive CK where
 |int (k:IntKind)
 |bool
 |fn (g:Nat)
 |p (k:IntKind) (z:Int)
 |sl (ks:List CE) (ty:Nat)
 |nf
 |any
 |rl (ks:List CE) (ty:Nat) (L:LL)
 |el (ks:List CE) (ty:Nat)
 deriving Repr,Inhabited
inductive Sh where
 |one (c:CK)
 |agg (cs:List CK)
 |ptr (cs:List CK)
 deriving Repr,Inhabited
def Sh.cks:Sh->List CK
 |.one c=>[c]
 |.agg cs=>cs
 |.ptr cs=>cs
inductive VK where
 |int (k:IntKind)
 |bool
 |list (ks:List CE)
 deriving Repr,Inhabited
inductive RK where
 |sl
 |map (nk:Nat) (ka va:Bool)
 |it (mid:Nat) (n:E)
 |ev
 |tab
 deriving Repr,Inhabited
structure RowOb where
 ks:List CE
 ty:Nat
 l:E
 own:Bool
 kd:RK
 deriving Repr,Inhabited
def Dn:List CE:=[ZA .i64,ZA .u64,ZA .i64,ZA .u64,ZA .u64,ZA .u64,ZA .u64,ZA .u64]
def RK.isHd:RK->Bool
 |.map _ _ _=>ZB
 |.it _ _=>ZB
 |.tab=>ZB
 |_=>ZC
def RK.isSl:RK->Bool
 |.sl=>ZB
 |_=>ZC
inductive Sig where
 |normal
 |exit (id:Nat)
 |ret
 deriving Repr,Inhabited
inductive LS where
 |ready
 |busy
 |done
 deriving Repr,Inhabited
structure Lp where
 st:LS
 pend:Option Sig
 deriving Repr,Inhabited
inductive Ob where
 |box (cs:List C) (ty:Nat)
 |row (r:RowOb)
 |gone
 |loop (y:Lp)
 deriving Repr,Inhabited
inductive TT where
 |u (v:V)
 |node (l r:TT)
 deriving Repr,Inhabited
def TT.get:TT->Nat->V
 |.u v,_=>v
 |.node l r,i=>bif ZJ (Nat.mod i 2) 0 then l.get (Nat.div i 2)else r.get (Nat.div i 2)
def TT.fst:TT->TT
 |.u v=>.u v
 |.node l _=>l
def TT.snd:TT->TT
 |.u v=>.u v
 |.node _ r=>r
def TT.set:Nat->TT->Nat->V->TT
 |0,_,_,v=>.u v
 |d+1,t,i,v=>bif ZJ (Nat.mod i 2) 0 then .node (t.fst.set d (Nat.div i 2) v) t.snd else .node t.fst (t.snd.set d (Nat.div i 2) v)
def TT.get_fst(t:TT)(i:Nat)(h:i % 2=0):t.fst.get (i / 2)=t.get i:=by
 cases t with
 |u v=>rfl
 |node l r=>have h':Nat.mod i 2=0:=h;show l.get (i / 2)=_;rw[TT.get,h'];rfl
def TT.get_snd(t:TT)(i:Nat)(h:i % 2≠0):t.snd.get (i / 2)=t.get i:=by
 cases t with
 |u v=>rfl
 |node l r=>
   have h':ZJ (Nat.mod i 2) 0=ZC:=by
    cases hb:ZJ (Nat.mod i 2) 0 with
    |false=>rfl
    |true=>exact ai (Ak hb) h
   show r.get (i / 2)=_;rw[TT.get,h'];rfl
def TT.get_node(l r:TT)(i:Nat):(TT.node l r).get i=if i % 2=0 then l.get (i / 2)else r.get (i / 2):=by
 split
 next h=>exact(TT.get_fst (.node l r) i h).symm
 next h=>exact(TT.get_snd (.node l r) i h).symm
def TT.get_set(v:V):∀(d:Nat) (t:TT) (i j:Nat),i<2 ^ d->j<2 ^ d->(t.set d i v).get j=if i=j then v else t.get j
 |0,t,i,j,hi,hj=>by
   have:i=j:=by rw[Nat.pow_zero]at hi hj;omega
   rw[ae this];rfl
 |d+1,t,i,j,hi,hj=>by
   have hp:2 ^ (d+1)=2*2 ^ d:=by rw[Nat.pow_succ];omega
   have Gx:i / 2<2 ^ d:=Fn;have UT:j / 2<2 ^ d:=Fn;unfold TT.set;by_cases h:i % 2=0
   .have h':Nat.mod i 2=0:=h;rw[h'];show(TT.node (t.fst.set d (i / 2) v) t.snd).get j=_;rw[TT.get_node];by_cases h2:j % 2=0
    .rw[ae h2,TT.get_set v d t.fst _ _ Gx UT,TT.get_fst t j h2];by_cases e:i=j
     .rw[ae (by rw[e]),ae e]
     .rw[aa Fn,aa e]
    .rw[aa h2,TT.get_snd t j h2,aa Fn]
   .have h':ZJ (Nat.mod i 2) 0=ZC:=by
     cases hb:ZJ (Nat.mod i 2) 0 with
     |false=>rfl
     |true=>exact ai (Ak hb) h
    rw[h'];show(TT.node t.fst (t.snd.set d (i / 2) v)).get j=_;rw[TT.get_node];by_cases h2:j % 2=0
    .rw[ae h2,TT.get_fst t j h2,aa Fn]
    .rw[aa h2,TT.get_set v d t.snd _ _ Gx UT,TT.get_snd t j h2];by_cases e:i=j
     .rw[ae (by rw[e]),ae e]
     .rw[aa Fn,aa e]
structure TM where
 cur:TT
 n:Nat
 old:List (TT×Nat)
 deriving Repr,Inhabited
def jf:List (TT×Nat)->Nat->Option V
 |[],_=>ZE
 |(t,n)::l,i=>if i<n then ZA (t.get i)else jf l (i-n)
def fi:List (TT×Nat)->Nat
 |[]=>0
 |(_,n)::l=>n+fi l
def TM.get?(m:TM)(i:Nat):Option V:=if i<m.n then ZA (m.cur.get i)else jf m.old (i-m.n)
def TM.length(m:TM):Nat:=m.n+fi m.old
def TM.set(m:TM)(i:Nat)(v:V):TM:=match m with
 |⟨c,n,o⟩=>⟨c.set (Nat.log2 n+1) i v,n,o⟩
def TM.setFrom(m:TM):Nat->List V->TM
 |_,[]=>m
 |i,v::l=>(m.set i v).setFrom (i+1) l
def TM.push(args:List V)(n:Nat)(m:TM):TM:=TM.setFrom ⟨.u (.one .undef),n,(m.cur,m.n)::m.old⟩ 0 args
def TM.pop(m:TM):TM:=match m.old with
 |[]=>⟨m.cur,0,[]⟩
 |(t,n)::l=>⟨t,n,l⟩
def TM.length_set(m:TM)(i:Nat)(v:V):(m.set i v).length=m.length:=rfl
def TM.n_set(m:TM)(i:Nat)(v:V):(m.set i v).n=m.n:=rfl
def TM.get_set(m:TM)(v:V)(h:i<m.n)(j:Nat):(m.set i v).get? j=if i=j then ZA v else m.get? j:=by
 unfold TM.get?;have hb:m.n<2 ^ (Nat.log2 m.n+1):=Nat.lt_log2_self;by_cases hj:j<m.n
 .rw[ae (show j<(m.set i v).n from hj),ae hj];show ZA ((m.cur.set (Nat.log2 m.n+1) i v).get j)=_;rw[TT.get_set v _ _ _ _ Fn Fn];split<;>rfl
 .rw[aa (show¬j<(m.set i v).n from hj),aa hj,aa Fn];rfl
def ql:∀{l:List (TT×Nat)} {i:Nat},jf l i=ZE↔fi l<=i
 |[],i=>by simp[jf,fi]
 |(t,n)::l,i=>by
   unfold jf fi;split
   .exact XD
   .rw[ql (l:=l)];omega
def TM.get_none{m:TM}:m.get? i=ZE↔m.length<=i:=by
 unfold TM.get? TM.length;split
 .exact XD
 .rw[ql];omega
def TM.get_some{m:TM}(h:i<m.length):∃v,m.get? i=ZA v:=by
 cases hg:m.get? i with
 |some v=>exact⟨v,rfl⟩
 |none=>have:=TM.get_none.1 hg;omega
def TM.n_le(m:TM):m.n<=m.length:=Nat.le_add_right _ _
def TM.get_lt{m:TM}(h:i<m.n):m.get? i=ZA (m.cur.get i):=ae h
def TM.setFrom_n:∀(l:List V) (m:TM) (i:Nat),(m.setFrom i l).n=m.n/\(m.setFrom i l).old=m.old
 |[],m,i=>⟨rfl,rfl⟩
 |v::l,m,i=>by rw[TM.setFrom];exact TM.setFrom_n l (m.set i v) (i+1)
def TM.setFrom_get:∀(l:List V) (m:TM) (i j:Nat),i+l.length<=m.n->(m.setFrom i l).get? j=if i<=j/\j<i+l.length then l[j-i]? else m.get? j
 |[],m,i,j,h=>by rw[TM.setFrom,aa (by simp only[List.length_nil];omega)]
 |v::l,m,i,j,h=>by
   simp only[YQ]at h ⊢;rw[TM.setFrom,TM.setFrom_get l (m.set i v) (i+1) j (by rw[TM.n_set];omega),TM.get_set m v Fn];by_cases h1:i+1<=j/\j<i+1+l.length
   .rw[ae h1,ae Fn,show j-i=(j-(i+1))+1 by omega,mj]
   .rw[aa h1];by_cases h2:i=j
    .subst h2;rw[ae rfl,ae Fn,Nat.sub_self];rfl
    .rw[aa h2,aa Fn]
def TM.push_n(args:List V)(n:Nat)(m:TM):(m.push args n).n=n:=(TM.setFrom_n _ _ _).1
def TM.push_old(args:List V)(n:Nat)(m:TM):(m.push args n).old=(m.cur,m.n)::m.old:=(TM.setFrom_n _ _ _).2
def TM.push_length(args:List V)(n:Nat)(m:TM):(m.push args n).length=n+m.length:=by unfold TM.length;rw[TM.push_n,TM.push_old];rfl
def TM.push_arg{args:List V}{n:Nat}(m:TM)(h:args.length<=n)(hi:i<args.length):(m.push args n).get? i=args[i]? :=by unfold TM.push;rw[TM.setFrom_get _ _ _ _ Xx,ae Fn,Nat.sub_zero]
def TM.push_undef{args:List V}{n:Nat}(m:TM)(h:args.length<=n)(hi:args.length<=i)(hn:i<n):(m.push args n).get? i=ZA (.one .undef):=by unfold TM.push;rw[TM.setFrom_get _ _ _ _ Xx,aa Fn];exact TM.get_lt (m:=⟨.u (.one .undef),n,(m.cur,m.n)::m.old⟩) hn
def TM.push_old_get{args:List V}{n:Nat}(m:TM)(h:args.length<=n)(i:Nat):(m.push args n).get? (n+i)=m.get? i:=by unfold TM.push;rw[TM.setFrom_get _ _ _ _ Xx,aa Fn];unfold TM.get?;rw[aa (by simp only;omega)];show jf ((m.cur,m.n)::m.old) (n+i-n)=_;rw[Nat.add_sub_cancel_left];rfl
def TM.pop_get{m:TM}(h:m.old≠[])(i:Nat):m.pop.get? i=m.get? (m.n+i):=by
 obtain⟨c,n,old⟩:=m;cases old with
 |nil=>exact(h rfl).elim
 |cons p l=>obtain⟨t,k⟩:=p;show(TM.mk t k l).get? i=(TM.mk c n ((t,k)::l)).get? (n+i);unfold TM.get?;rw[aa (show¬n+i<n by omega)];simp only[Nat.add_sub_cancel_left];rfl
def TM.pop_length{m:TM}(h:m.old≠[]):m.length=m.n+m.pop.length:=by
 obtain⟨c,n,old⟩:=m;cases old with
 |nil=>exact(h rfl).elim
 |cons p l=>obtain⟨t,k⟩:=p;rfl
structure St where
 tmps:TM
 heap:List Ob
 deriving Repr,Inhabited
def St.n(s:St):Nat:=s.tmps.n
def St.le(s:St):s.n<=s.tmps.length:=s.tmps.n_le
inductive Tr where
 |u (e:E)
 |panic
 |stuck (n:Nat)
 |br (e:E) (t f:Tr)
 |call (key:Nat) (ks:List CK) (args:E) (v0:Nat) (t:Tr)
 |loop (lv v0:Nat) (vks:List VK) (init:E) (body:Tr)
 |cut (lv v0:Nat) (vks:List VK) (pre body:Tr)
 |next (lv:Nat) (args:E)
 |at(id:Nat) (s:St)
 |any (v0:Nat) (e:E) (t:Tr)
 |both (v0:Nat) (a b:Tr)
 deriving Repr,Inhabited
structure Spec where
 F:Nat->List Dt->List Dt
 pre:Nat->List Dt->Prop
 hw:World->Prop:=fun _=>True
 hx:∀w w',Ext w w'->hw w->hw w':=by exact fun _ _ _ _=>trivial
 hi:∃w,hw w:=by exact⟨default,trivial⟩
def dI(ds:List Dt)(n:Nat):Int:=match ds[n]? with|some (.z x)=>x|_=>0
def dB(ds:List Dt)(n:Nat):Bool:=dI ds n==1
def dL(ds:List Dt)(n:Nat):LL:=match ds[n]? with|some (.l L)=>L|_=>[]
def eqs(U:Env)(ds:List Dt)(v0:Nat):Nat->List CK->Prop
 |_,[]=>True
 |n,.int _::ks=>U.i (v0+n)=dI ds n/\eqs U ds v0 (n+1) ks
 |n,.bool::ks=>U.b (v0+n)=dB ds n/\eqs U ds v0 (n+1) ks
 |n,.sl _ _::ks=>U.l (v0+n)=dL ds n/\eqs U ds v0 (n+1) ks
 |n,_::ks=>eqs U ds v0 (n+1) ks
def Ag(n:Nat)(U U':Env):Prop:=∀i,i<n->U.i i=U'.i i/\U.b i=U'.b i/\U.l i=U'.l i
def Ag.refl(n:Nat)(U:Env):Ag n U U:=fun _ _=>⟨rfl,rfl,rfl⟩
def Ag.trans{n:Nat}{a b c:Env}(h:Ag n a b)(h':Ag n b c):Ag n a c:=fun i hi=>⟨(h i hi).1.trans (h' i hi).1,(h i hi).2.1.trans (h' i hi).2.1,(h i hi).2.2.trans (h' i hi).2.2⟩
def Ag.mono{n m:Nat}{a b:Env}(h:Ag n a b)(hm:m<=n):Ag m a b:=fun i hi=>h i Fn
def Ag.symm{n:Nat}{a b:Env}(h:Ag n a b):Ag n b a:=fun i hi=>⟨(h i hi).1.symm,(h i hi).2.1.symm,(h i hi).2.2.symm⟩
def Ae(k:IntKind)(z:Int):Bool:=decide (k.min<=z)&&decide (z<=k.max)
def Dp:CE->Int->Bool
 |some k,z=>Ae k z
 |none,z=>z==0||z==1
def az:List CE->List Int->Bool
 |[],[]=>ZB
 |k::ks,x::xs=>Dp k x&&az ks xs
 |_,_=>ZC
structure RowsIn(ks:List CE)(L:LL):Prop where
 row:∀r∈L,az ks r=ZB
 len:L.length<=maxLen
def varD(U:Env)(n:Nat):VK->Dt
 |.int _=>.z (U.i n)
 |.bool=>.z (AD (U.b n))
 |.list _=>.l (U.l n)
def varsD(U:Env):Nat->List VK->List Dt
 |_,[]=>[]
 |n,k::ks=>varD U n k::varsD U (n+1) ks
def okD:VK->Dt->Prop
 |.int k,.z x=>Ae k x=ZB
 |.bool,.z x=>x=0\/x=1
 |.list ks,.l L=>RowsIn ks L
 |_,_=>False
def okDs:List VK->List Dt->Prop
 |[],[]=>True
 |k::ks,d::ds=>okD k d/\okDs ks ds
 |_,_=>False
def H7(I:Nat->List Dt->Prop)(lv:Nat)(p:List Dt->Prop):Nat->List Dt->Prop:=fun n=>if n=lv then p else I n
def oI(I:Nat->List Dt->Prop)(lv:Nat)(p:List Dt->Prop):H7 I lv p lv=p:=ae rfl
def py(I:Nat->List Dt->Prop){lv n:Nat}(p:List Dt->Prop)(h:n≠lv):H7 I lv p n=I n:=aa h
def Tr.holds(sp:Spec)(G:Env->E->Prop):Env->(Nat->List Dt->Prop)->Tr->Prop
 |U,_,.u e=>G U e
 |_,_,.panic=>False
 |_,_,.stuck _=>False
 |_,_,.at _ _=>False
 |U,I,.br e t f=>(e.B U=ZB->t.holds sp G U I)/\(e.B U=ZC->f.holds sp G U I)
 |U,I,.call key ks args v0 t=>sp.pre key (args.D U)/\eqs U (sp.F key (args.D U)) v0 0 ks/\t.holds sp G U I
 |U,I,.next lv args=>I lv (args.D U)
 |U,I,.any v0 e t=>∀z:Int,Ae .i64 z=ZB->∃U',Ag v0 U U'/\U'.i v0=z/\(e.B U'=ZB->t.holds sp G U' I)
 |U,I,.both v0 a b=>(∃U',Ag v0 U U'/\a.holds sp G U' I)/\∃U',Ag v0 U U'/\b.holds sp G U' I
 | U,I,.loop lv v0 vks init body=>∃(inv:List Dt->Prop) (μ:List Dt->Nat),inv (init.D U)/\
   ∀ds,okDs vks ds->inv ds->∃U',Ag v0 U U'/\varsD U' v0 vks=ds/\body.holds sp G U' (H7 I lv fun KH=>inv KH/\μ KH<μ ds)
 | U,I,.cut lv v0 vks pre body=>∃inv:List Dt->Prop,pre.holds sp G U (H7 I lv inv)/\
   ∀ds,okDs vks ds->inv ds->∃U',Ag v0 U U'/\varsD U' v0 vks=ds/\body.holds sp G U' I
structure Sm where
 f:Nat
 key:Nat
 args:List Sh
 res:List Sh
 tup:Bool
 deriving Repr,Inhabited
def Sm.ks(s:Sm):List CK:=s.res.flatMap (·.cks)
def Sm.inp(s:Sm):Option (List CE×Nat):=match s.args,s.res with
 |[.one (.sl ks ty)],[]=>ZA (ks,ty)
 |_,_=>ZE
structure TI where
 agg:Bool
 size:Nat
 zero:List C
 fields:List (Nat×Nat)
 arr:Option (Nat×Nat)
 ik:Option IntKind
 eqok:Bool
 isb:Bool
 sle:Option Nat
 bytes:Nat
 fnt:Bool
 mapt:Option (Nat×Nat)
 keyok:Bool
 kd:Nat
 deriving Repr,Inhabited
structure Kw where
 pc:List (E×Bool)
 log:List (Nat×E×Nat)
 vk:List VK
 lv:Nat
 deriving Repr,Inhabited
structure KwGe(a b:Kw):Prop where
 lv:a.lv=b.lv
 vk:b.vk.length<=a.vk.length
def KwGe.refl(a:Kw):KwGe a a:=⟨rfl,ZK _⟩
def KwGe.trans{a b c:Kw}(h:KwGe a b)(h':KwGe b c):KwGe a c:=⟨h.lv.trans h'.lv,dd h'.vk h.vk⟩
inductive Pl where
 |top (t:Nat)
 |tmpI (t:Nat) (k:IntKind)
 |tmpB (t:Nat)
 |tmpA (t:Nat) (ks:List CE)
 |tmpS (t:Nat) (ks:List CE) (ty:Nat)
 |tmpX (t:Nat) (ks:List CE) (ty:Nat)
 |cI (b o:Nat) (k:IntKind)
 |celB (b o:Nat)
 |cT (b o:Nat) (ks:List CE) (ty:Nat)
 |celV (b o:Nat) (ks:List CE) (ty:Nat)
 |cels (b o:Nat) (ks:List CE)
 |only(ks:List Nat)
 |row (id:Nat)
 |gone (id:Nat)
 |ask
 deriving Repr,Inhabited
structure Cx where
 ty:List (Nat×TI)
 sm:List Sm
 res:List Sh
 fb:List (List C)
 hints:List (Nat×List Pl)
 cuts:List (Nat×List Pl)
 fns:List (Nat×Func×List (Nat×List Pl)×List (Nat×List Pl))
def ap{α:Type}(n:Nat):List (Nat×α)->Option α
 |[]=>ZE
 |(m,a)::l=>if ZJ m n then ZA a else ap n l
def af{α:Type}{n:Nat}{a:α}:∀{l:List (Nat×α)},ap n l=ZA a->(n,a)∈l
 |(m,b)::l,h=>by
   simp only[ap]at h;split at h
   next hm=>rw[Ak hm];cases h;exact bW
   .exact cR _ (af h)
def kh(op:BinOp)(k:IntKind)(a b:E):E:=
 match a,b with
 |.p x,.p y=>.p (Ac op k x y)
 |a,b=>.f op k a b
def ut(U:Env)(op:BinOp)(k:IntKind)(a b:E):(kh op k a b).I U=Ac op k (a.I U) (b.I U):=by unfold kh;split<;>rfl
def TN(k:IntKind)(a:E):E:=
 match a with
 |.p x=>.p (k.wrap x)
 |a=>.F k a
def akM(U:Env)(k:IntKind)(a:E):(TN k a).I U=k.wrap (a.I U):=by unfold TN;split<;>rfl
def Bl(a b:E):E:=
 match a,b with
 |.p x,.p y=>.tt (decide (x<y))
 |a,b=>if a.same b then .tt ZC else .lt a b
def dh(U:Env)(a b:E):(Bl a b).B U=decide (a.I U<b.I U):=by
 unfold Bl;split
 .rfl
 .split
  next h=>rw[E.same_eq h];simp[E.B]
  .rfl
def Gq(a b:E):E:=
 match a,b with
 |.p x,.p y=>.tt (fH x y)
 |a,b=>if a.same b then .tt ZB else .eq a b
def qq(U:Env)(a b:E):(Gq a b).B U=(a.I U==b.I U):=by
 unfold Gq;split
 .simp[E.B,E.I,uV]
 .split
  next h=>rw[E.same_eq h];simp[E.B]
  .rfl
def eD(a:E):E:=
 match a with
 |.tt b=>.tt (!b)
 |.not a=>a
 |a=>.not a
def dn(U:Env)(a:E):(eD a).B U = !a.B U:=by unfold eD;split<;>simp[E.B]
def im(a b:E):E:=
 match a with
 |.tt ZB=>b
 |.tt ZC=>.tt ZC
 |a=>.and a b
def dV(U:Env)(a b:E):(im a b).B U=(a.B U&&b.B U):=by unfold im;split<;>simp[E.B]
def QH(a b:E):E:=
 match a,b with
 |.tt ZB,b=>b
 |a,.tt ZB=>a
 |.tt ZC,b=>eD b
 |a,.tt ZC=>eD a
 |a,b=>if a.same b then .tt ZB else .beq a b
def uu(U:Env)(a b:E):(QH a b).B U=(a.B U==b.B U):=by
 unfold QH;split
 .simp[E.B]
 .simp[E.B]
 .rw[dn];simp only[E.B];cases b.B U<;>rfl
 .rw[dn];simp only[E.B];cases a.B U<;>rfl
 .split
  next h=>rw[E.same_eq h];simp[E.B]
  .rfl
def QF(a b:E):E:=
 match a,b with
 |.p x,.p y=>.p (min x y)
 |a,b=>if a.same b then a else .mn a b
def ap7(U:Env)(a b:E):(QF a b).I U=min (a.I U) (b.I U):=by
 unfold QF;split
 .rfl
 .split
  next h=>rw[E.same_eq h];omega
  .rfl
def QG(a b:E):E:=
 match a,b with
 |.p x,.p y=>.p (max x y)
 |a,b=>if a.same b then a else .mx a b
def ap8(U:Env)(a b:E):(QG a b).I U=max (a.I U) (b.I U):=by
 unfold QG;split
 .rfl
 .split
  next h=>rw[E.same_eq h];omega
  .rfl
def nt(L:LL)(i:Int)(c:Nat)(x:Int):(st L i c x).length=L.length:=by simp[st]
def dG:E->E
 |.ln=>.p 0
 |.lset a _ _ _=>dG a
 |.lsetb a _ _ _=>dG a
 |.lput a _ _=>dG a
 |.lq a r=>match dG a with
   |.p z=>.p (z+1)
   |_=>.len (.lq a r)
 |.lcat a b=>match dG a,dG b with
   |.p y,.p z=>.p (y+z)
   |_,_=>.len (.lcat a b)
 |.lrep n r=>match n with
   |.p z=>if decide (0<=z)then .p z else .len (.lrep n r)
   |n=>.len (.lrep n r)
 |.ltake a n=>match dG a,n with
   |.p y,.p z=>.p (if decide (z<=0)then 0 else if decide (z<=y)then z else y)
   |_,_=>.len (.ltake a n)
 |.ldrop a n=>match dG a,n with
   |.p y,.p z=>.p (if decide (z<=0)then y else if decide (z<=y)then y-z else 0)
   |_,_=>.len (.ldrop a n)
 |a=>.len a
def dF(U:Env):∀a:E,(dG a).I U=((a.R U).length:Int):=by
 intro a
 induction a<;>simp only[dG]<;>first|rfl|skip
 case lset ih _ _=>rw[ih];simp[E.R,nt]
 case lsetb ih _ _=>rw[ih];simp[E.R,nt]
 case lput ih _ _=>rw[ih];simp[E.R]
 case lq ih _=>
  split
  next z hz=>rw[hz]at ih;simp only[E.I]at ih;simp[E.R,E.I,ih]
  .rfl
 case lcat Em En=>
  split
  next y z hy hz=>rw[hy]at Em;rw[hz]at En;simp only[E.I]at Em En;simp[E.R,E.I,Em,En]
  .rfl
 case lrep n r _ _=>
  split
  .rename_i z;split
   next h=>have:=Ah h;simp[E.R,E.I];omega
   .rfl
  .rfl
 case ltake a n ih _=>
  split
  .rename_i y z hy _;rw[hy]at ih;simp only[E.I]at ih;simp only[E.R,E.I,YZ];split
   next h=>have:=Ah h;omega
   .rename_i h;have h1:¬z<=0:=fun h2=>h (dm h2);split
    next h2=>have:=Ah h2;omega
    next h2=>have h3:¬z<=y:=fun h4=>h2 (dm h4);omega
  .rfl
 case ldrop a n ih _=>
  split
  .rename_i y z hy _;rw[hy]at ih;simp only[E.I]at ih;simp only[E.R,E.I,List.length_drop];split
   next h=>have:=Ah h;omega
   .rename_i h;have h1:¬z<=0:=fun h2=>h (dm h2);split
    next h2=>have:=Ah h2;omega
    next h2=>have h3:¬z<=y:=fun h4=>h2 (dm h4);omega
  .rfl
def ap9(L:LL)(key:List Int):0<=Gp L key/\Gp L key<=(L.length:Int):=by unfold Gp;have:=List.findIdx_le_length (p:=fun r:List Int=>r.take key.length==key) (xs:=L);omega
def TS:(Lit.int k z).wf=Ae k z:=rfl
def mQ(k:IntKind)(z:Int):Ae k (k.wrap z)=ZB:=wf_wrap k z
def abW(op:BinOp)(k:IntKind)(x y:Int):Ae k (bits op k x y)=ZB:=wf_bits op k x y
def bF:Ae k z=ZB↔k.min<=z/\z<=k.max:=by simp[Ae]
def ahB(k:IntKind):k.min<=0:=by cases k<;>decide
def ahE(k:IntKind):0<=k.max:=by cases k<;>decide
def kS(k:IntKind):Ae k 0=ZB:=bF.2 ⟨ahB k,ahE k⟩
def E.lenok(vk:List VK):E->Bool
 |.g n=>match vk[n]? with|some (.list _)=>ZB|_=>ZC
 |.ln=>ZB
 |.lset a _ _ _|.lsetb a _ _ _|.lput a _ _|.ltake a _|.ldrop a _=>a.lenok vk
 |_=>ZC
mutual
def E.rng(vk:List VK)(k:IntKind):E->Bool
 |.p z=>Ae k z
 |.w n=>match vk[n]? with|some (.int k')=>bJ k' k|_=>ZC
 |.f op k' a _=>bJ k' k&&(match op with|.add|.sub|.mul|.quo|.shl|.and|.or|.xor|.andNot=>ZB|.rem|.shr=>a.rng vk k|_=>ZC)
 | .F k' _=>bJ k' k
 |.mn a b=>a.rng vk k&&b.rng vk k
 |.mx a b=>a.rng vk k&&b.rng vk k
 |.len a=>bJ .i64 k&&a.lenok vk
 |.get a _ c=>a.col vk k c
 |.mix l _=>bJ .i64 k&&l.lenok vk
 |.nth _ l=>l.lrng vk k
 |.ite _ a b=>a.rng vk k&&b.rng vk k
 |_=>ZC
 termination_by structural x=>x
def E.col(vk:List VK)(k:IntKind)(c:Nat):E->Bool
 |.g n=>match vk[n]? with|some (.list ks)=>(match ks[c]? with|some (ZA k')=>bJ k' k|_=>ZC)|_=>ZC
 |.ln=>ZB
 |.lset a _ c' x=>a.col vk k c&&(!ZJ c' c||x.rng vk k)
 |.lsetb a _ c' _=>a.col vk k c &&!ZJ c' c
 |.lq a r=>a.col vk k c&&r.rcol vk k c
 |.lput a _ r=>a.col vk k c&&r.rcol vk k c
 |.lcat a b=>a.col vk k c&&b.col vk k c
 |.lrep _ r=>r.rcol vk k c
 |.ltake a _|.ldrop a _=>a.col vk k c
 |_=>ZC
 termination_by structural x=>x
def E.rcol(vk:List VK)(k:IntKind)(c:Nat):E->Bool
 |.cons a t=>match c with|0=>a.rng vk k|c+1=>t.rcol vk k c
 |.j _ t=>match c with|0=>ZC|c+1=>t.rcol vk k c
 |.nil=>ZB
 |_=>ZC
 termination_by structural x=>x
def E.lrng(vk:List VK)(k:IntKind):E->Bool
 |.nil=>ZB
 |.cons a t=>a.rng vk k&&t.lrng vk k
 |_=>ZC
 termination_by structural x=>x
end
def iY(vk:List VK)(b d:Nat):List CE:=match vk[b]? with
 |some (.list ks)=>ks.drop d
 |_=>[]
structure Rm where
 q:List VK
 n:Nat
 g:List CE
 a:Nat
 c:Nat
 q2:List VK
 n2:Nat
structure Rm.ok(vk:List VK)(m:Rm):Prop where
 q:m.q=vk.drop m.n
 g:m.g=iY vk m.a m.c
 q2:m.q2=vk.drop m.n2
def Rm.ini(vk:List VK):Rm:=⟨vk,0,iY vk 0 0,0,0,vk,0⟩
def Rm.ini_ok(vk:List VK):(Rm.ini vk).ok vk:=⟨rfl,rfl,rfl⟩
def E.rngW0(vk:List VK)(k:IntKind)(m:Rm)(e:E):Option Rm:=match e with
 |.w i=>match(bif ZJ i m.n then m.q else vk.drop i)with
   |.int k'::q'=>if bJ k' k then ZA ⟨q',i+1,m.g,m.a,m.c,m.q2,m.n2⟩else ZE
   |_=>ZE
 |.get (.g b) _ d=>match(bif ZJ b m.a&&ZJ d m.c then m.g else iY vk b d)with
   |some k'::g'=>if bJ k' k then ZA ⟨m.q,m.n,g',b,d+1,m.q2,m.n2⟩else ZE
   |_=>ZE
 |e=>if e.rng vk k then ZA m else ZE
def E.rngW(vk:List VK)(k:IntKind)(m:Rm)(e:E):Option Rm:=match e with
 |.ite _ (.w i) b=>match(bif ZJ i m.n2 then m.q2 else vk.drop i)with
   |.int k'::q'=>if bJ k' k then(b.rngW0 vk k m).map fun m'=>⟨m'.q,m'.n,m'.g,m'.a,m'.c,q',i+1⟩else ZE
   |_=>ZE
 |e=>e.rngW0 vk k m
def qK{α:Type}{l:List α}{n:Nat}{x:α}{r:List α}(h:l.drop n=x::r):l[n]? =ZA x/\r=l.drop (n+1):=by
 refine⟨?_,?_⟩
 .have:=congrArg (fun l=>l[0]?) h;simpa using this
 .have:=congrArg List.tail h;simpa using this.symm
def abi{vk:List VK}{m m':Rm}{e:E}(hm:m.ok vk)(h:e.rngW0 vk k m=ZA m'):e.rng vk k=ZB/\m'.ok vk:=by
 unfold E.rngW0 at h;split at h
 .rename_i i;have hq:(bif ZJ i m.n then m.q else vk.drop i)=vk.drop i:=by
   cases hb:ZJ i m.n with
   |false=>rfl
   |true=>rw[Ak hb];exact hm.q
  rw[hq]at h;split at h
  .rename_i k' q' hd;obtain⟨h0,h1⟩:=qK hd;split at h
   next hk=>cases h;refine⟨?_,h1,hm.g,hm.q2⟩;unfold E.rng;rw[h0];exact hk
   .exact Xo
  .exact Xo
 .rename_i b i d;have hq:(bif ZJ b m.a&&ZJ d m.c then m.g else iY vk b d)=iY vk b d:=by
   cases hb:ZJ b m.a&&ZJ d m.c with
   |false=>rfl
   |true=>rw[ne]at hb;rw[Ak hb.1,Ak hb.2];exact hm.g
  rw[hq]at h;split at h
  .rename_i k' g' hd;split at h
   .rename_i hk;cases h;unfold iY at hd;split at hd
    .rename_i ks Cq;obtain⟨h0,h1⟩:=qK hd;refine⟨?_,hm.q,?_,hm.q2⟩
     .unfold E.rng E.col;rw[Cq];simp only[h0];exact hk
     .unfold iY;rw[Cq];exact h1
    .cases hd
   .exact Xo
  .exact Xo
 .split at h
  next hr=>cases h;exact⟨hr,hm⟩
  .exact Xo
def yP{vk:List VK}{m m':Rm}{e:E}(hm:m.ok vk)(h:e.rngW vk k m=ZA m'):e.rng vk k=ZB/\m'.ok vk:=by
 unfold E.rngW at h;split at h
 .rename_i x i b;have hq:(bif ZJ i m.n2 then m.q2 else vk.drop i)=vk.drop i:=by
   cases hb:ZJ i m.n2 with
   |false=>rfl
   |true=>rw[Ak hb];exact hm.q2
  rw[hq]at h;split at h
  .rename_i k' q' hd;obtain⟨h0,h1⟩:=qK hd;split at h
   .rename_i hk;rw[Ay]at h;obtain⟨m2,h2,rfl⟩:=h;obtain⟨h3,h4⟩:=abi hm h2;refine⟨?_,h4.q,h4.g,h1⟩;have h5:(E.w i).rng vk k=ZB:=by
     unfold E.rng;rw[h0];exact hk
    show((E.w i).rng vk k&&b.rng vk k)=ZB;rw[h5,h3];rfl
   .exact Xo
  .exact Xo
 .exact abi hm h
def E.rok0(vk:List VK):List CE->E->Bool
 |[],.nil=>ZB
 |some k::ks,.cons a t=>a.rng vk k&&t.rok0 vk ks
 |none::ks,.j _ t=>t.rok0 vk ks
 |_,_=>ZC
def E.rokW(vk:List VK):List CE->E->Rm->Bool
 |[],.nil,_=>ZB
 |some k::ks,.cons a t,m=>match a.rngW vk k m with
   |some m'=>E.rokW vk ks t m'
   |none=>ZC
 |none::ks,.j _ t,m=>E.rokW vk ks t m
 |_,_,_=>ZC
def apA{vk:List VK}:∀{ks:List CE} {e:E} {m:Rm},m.ok vk->E.rokW vk ks e m=ZB->e.rok0 vk ks=ZB:=by
 intro ks
 induction ks with
 |nil=>intro e m _ h;cases e<;>first|rfl|cases h
 |cons k ks ih=>
   intro e m hm h;cases k with
   |none=>cases e<;>first|cases h|exact ih hm h
   |some k=>
     cases e<;>first|cases h|skip
     simp only[E.rokW]at h;split at h
     next m' hw=>obtain⟨h1,h2⟩:=yP hm hw;simp only[E.rok0,h1,ih h2 h,Bool.and_self]
     .exact Xo
def E.rok(vk:List VK)(ks:List CE)(e:E):Bool:=E.rokW vk ks e (Rm.ini vk)
def di:List CE->List CE->Bool
 |[],[]=>ZB
 |some k::l,ZA k'::r=>bJ k k'&&di l r
 |none::l,ZE::r=>di l r
 |_,_=>ZC
def E.lok(vk:List VK)(ks:List CE):E->Bool
 |.g n=>match vk[n]? with|some (.list ks')=>di ks' ks|_=>ZC
 |.ln=>ZB
 |.lset a _ c x=>a.lok vk ks&&(match ks[c]? with|some (ZA k)=>x.rng vk k|_=>ZC)
 |.lsetb a _ c _=>a.lok vk ks&&(match ks[c]? with|some ZE=>ZB|_=>ZC)
 |.lq a r=>a.lok vk ks&&r.rok vk ks
 |.lput a _ r=>a.lok vk ks&&r.rok vk ks
 |.lcat a b=>a.lok vk ks&&b.lok vk ks
 |.lrep _ r=>r.rok vk ks
 |.ltake a _|.ldrop a _=>a.lok vk ks
 |_=>ZC
structure Vk(U:Env)(vk:List VK):Prop where
 i:∀n k,vk[n]? =ZA (.int k)->Ae k (U.i n)=ZB
 l:∀n ks,vk[n]? =ZA (.list ks)->RowsIn ks (U.l n)
def aeG(n:Nat)(b:Int):0<=(n:Int).tmod b/\(n:Int).tmod b<=n:=by
 have h2:0<=(n:Int).tmod b:=Int.tmod_nonneg _ Fn;have h1:((n:Int).tmod b).natAbs=n % b.natAbs:=by rw[Int.natAbs_tmod];rfl
 have h3:=Nat.mod_le n b.natAbs;have h4:=Int.natAbs_of_nonneg h2;omega
def ajJ{b:Int}:(0<=a->0<=a.tmod b/\a.tmod b<=a)/\(a<=0->a<=a.tmod b/\a.tmod b<=0):=by
 constructor
 .intro h;obtain⟨n,rfl⟩:=cj h;exact aeG n b
 .intro h;obtain⟨n,hn⟩:=cj (show 0 <= -a by omega);have ha:a = -(n:Int):=Fn;subst ha;rw[Int.neg_tmod];have:=aeG n b;omega
def alz{n:Nat}:(0<=a->0<=a.fdiv (2 ^ n)/\a.fdiv (2 ^ n)<=a)/\(a<=0->a<=a.fdiv (2 ^ n)/\a.fdiv (2 ^ n)<=0):=by
 have hp:(0:Int)<2 ^ n:=Int.pow_pos Fn;rw[Int.fdiv_eq_ediv_of_nonneg _ Fn];constructor
 .intro h;exact⟨Int.ediv_nonneg h Fn,Int.ediv_le_self _ h⟩
 .intro h;refine⟨?_,Int.ediv_nonpos_of_nonpos_of_neg h hp⟩;rw[Int.le_ediv_iff_mul_le hp];have h1:(1:Int)<=2 ^ n:=Fn;have:=Int.mul_le_mul_of_nonpos_left h h1;omega
def cO:∀{a b:List CE},di a b=ZB->a=b
 |[],[],_=>rfl
 |some k::l,ZA k'::r,h=>by simp only[di,ne]at h;rw[ax h.1,cO h.2]
 |none::l,ZE::r,h=>by rw[cO (a:=l) (b:=r) h]
def CR(ks:List CE):RK:=if di ks Dn then .ev else .sl
def cH(ks:List CE):(ks=Dn/\CR ks=.ev)\/(di ks Dn=ZC/\CR ks=.sl):=by
 unfold CR;cases h:di ks Dn with
 |true=>exact .inl ⟨cO h,rfl⟩
 |false=>exact .inr ⟨rfl,rfl⟩
def RK.isEv:RK->Bool
 |.ev=>ZB
 |_=>ZC
def RK.isEv_eq{k:RK}(h:k.isEv=ZB):k=.ev:=by cases k<;>first|rfl|cases h
def RK.fits(k:RK)(ks:List CE):Bool:=match k with
 |.sl=>!di ks Dn
 |.ev=>di ks Dn
 |_=>ZC
def RK.fits_eq{k:RK}{ks:List CE}(h:k.fits ks=ZB):k=CR ks:=by
 unfold RK.fits at h;unfold CR;split at h
 .rw[aa Xx]
 .rw[ae h]
 .exact Xo
def qa{ks:List CE}(h:az ks r=ZB){k:CE}(hc:ks[c]? =ZA k):Dp k (r.getD c 0)=ZB:=by
 induction ks generalizing r c with
 |nil=>simp at hc
 |cons k0 ks ih=>
   cases r with
   |nil=>cases h
   |cons x xs=>
     simp only[az,ne]at h;cases c with
     |zero=>simp at hc;subst hc;exact h.1
     |succ c=>simpa using ih h.2 Yp
def gQ{ks:List CE}(h:az ks r=ZB):r.length=ks.length:=by
 induction ks generalizing r with
 |nil=>cases r with
   |nil=>rfl
   |cons=>cases h
 |cons k0 ks ih=>cases r with
   |nil=>cases h
   |cons x xs=>simp only[az,ne]at h;simp[ih h.2]
def pZ{ks:List CE}(h:az ks r=ZB){k:CE}(hc:ks[c]? =ZA k){x:Int}(hx:Dp k x=ZB):az ks (r.set c x)=ZB:=by
 induction ks generalizing r c with
 |nil=>simp at hc
 |cons k0 ks ih=>
   cases r with
   |nil=>cases h
   |cons y ys=>
     simp only[az,ne]at h;cases c with
     |zero=>simp at hc;subst hc;simp[az,hx,h.2]
     |succ c=>simp[az,h.1,ih h.2 Yp]
def aqX{L:LL}(h:∀r∈L,Ae k (r.getD c 0)=ZB)(i:Int):Ae k (gt L i c)=ZB:=by
 unfold gt;cases hr:L[i.toNat]? with
 |none=>rw[show L.getD i.toNat []=[]from by rw[bZ,hr];rfl];exact kS k
 |some r=>rw[show L.getD i.toNat []=r from by rw[bZ,hr];rfl];exact h r (fI hr)
def wX{L:LL}{i:Int}{x:Int}(h:r∈st L i c x):r∈L\/(∃r0∈L,r=r0.set c x):=by
 unfold st at h;rcases List.mem_or_eq_of_mem_set h with h1|h1
 .exact .inl h1
 .by_cases hi:i.toNat<L.length
  .refine .inr ⟨L[i.toNat],List.getElem_mem _,?_⟩;rw[h1,bZ,AH hi];rfl
  .rw[List.set_eq_of_length_le Fn]at h;exact .inl h
def iC(L:LL)(i:Int)(c:Nat)(x:Int):(st L i c x).length=L.length:=by simp[st]
def aaE{c':Nat}{x:Int}(h:c'≠c):(r.set c' x).getD c 0=r.getD c 0:=by simp[bZ,pB h]
def tN{x:Int}(hx:Ae k x=ZB):Ae k ((r.set c x).getD c 0)=ZB:=by
 rw[bZ,em];simp only[bm];split
 .exact Xz
 .simpa using kS k
def abM{U:Env}{vk:List VK}(hv:Vk U vk):∀(e:E),e.lenok vk=ZB->(e.R U).length<=maxLen:=by
 intro e
 induction e<;>intro h<;>simp only[E.lenok]at h<;>first|cases h|skip
 case g n=>
  split at h
  next ks hk=>exact(hv.l n ks hk).len
  .exact Xo
 case ln=>simp[E.R]
 case lset ih _ _=>simpa[E.R,iC]using ih h
 case lput ih _ _=>simpa[E.R]using ih h
 case lsetb ih _ _=>simpa[E.R,iC]using ih h
 case ltake ih _=>exact dd (by simp only[E.R,YZ];omega) (ih h)
 case ldrop ih _=>exact dd (by simp[E.R]) (ih h)
def E.rngs_ok{U:Env}{vk:List VK}(hv:Vk U vk):∀(e:E),(∀k,e.rng vk k=ZB->Ae k (e.I U)=ZB)/\(∀k c,e.col vk k c=ZB->∀r∈e.R U,Ae k (r.getD c 0)=ZB)/\(∀k c,e.rcol vk k c=ZB->Ae k ((e.L U).getD c 0)=ZB)/\(∀k,e.lrng vk k=ZB->∀x∈e.L U,Ae k x=ZB):=by
 intro e
 induction e<;>refine⟨fun k h=> ?_,fun k c h=> ?_,fun k c h=> ?_,fun k h=> ?_⟩<;>(try simp only[E.rng,E.col,E.rcol,E.lrng]at h)<;>first|exact Bool.noConfusion h|skip
 case p.refine_1=>exact h
 case w.refine_1 n=>
  split at h
  next k' hk=>have:=hv.i n k' hk;rw[ax h]at this;exact this
  .exact Xo
 case f.refine_1 op k' a b iha ihb=>
  rw[ne]at h;obtain⟨h1,h2⟩:=h;have:=ax h1;subst this;have tail:∀x:Int,a.rng vk k'=ZB->((0<=a.I U->0<=x/\x<=a.I U)/\(a.I U<=0->a.I U<=x/\x<=0))->Ae k' x=ZB:=by
   intro x ha hx;have h3:=bF.1 (iha.1 k' ha);have:=ahB k';have:=ahE k';rw[bF];by_cases h0:0<=a.I U
   .have:=hx.1 h0;omega
   .have:=hx.2 Fn;omega
  simp only[E.I];cases op<;>first
   |exact mQ _ _
   |exact abW _ _ _ _
   |exact tail _ h2 ajJ
   |exact tail _ h2 alz
   |cases h2
 case F.refine_1 k' a _=>rw[<-ax h];exact mQ _ _
 case mn.refine_1 a b iha ihb=>rw[ne]at h;have h1:=bF.1 (iha.1 k h.1);have h2:=bF.1 (ihb.1 k h.2);rw[bF];simp only[E.I];omega
 case mx.refine_1 a b iha ihb=>rw[ne]at h;have h1:=bF.1 (iha.1 k h.1);have h2:=bF.1 (ihb.1 k h.2);rw[bF];simp only[E.I];omega
 case len.refine_1 a _=>rw[ne]at h;have h1:=abM hv a h.2;rw[<-ax h.1,bF];simp only[E.I,maxLen]at h1 ⊢;simp only[IntKind.min,IntKind.max,YT,YW];simp;omega
 case get.refine_1 a i c iha _=>exact aqX (iha.2.1 k c h) _
 case mix.refine_1 l key _ _=>rw[ne]at h;have h1:=abM hv l h.2;have h2:=ap9 (l.R U) (key.L U);rw[<-ax h.1,bF];simp only[E.I,maxLen]at h1 ⊢;simp only[IntKind.min,IntKind.max,YT,YW];simp;omega
 case nth.refine_1 i l _ ihl=>
  simp only[E.I];rw[bZ];cases hx:(l.L U)[(i.I U).toNat]? with
  |none=>exact kS k
  |some x=>exact ihl.2.2.2 k h x (fI hx)
 case ite.refine_1 c a b _ iha ihb=>
  rw[ne]at h;simp only[E.I];split
  .exact iha.1 k h.1
  .exact ihb.1 k h.2
 case nil.refine_4=>intro x hx;simp[E.L]at hx
 case cons.refine_4 a t iha HW=>
  rw[ne]at h;intro x hx;simp only[E.L,YS]at hx;rcases hx with rfl|hx
  .exact iha.1 k h.1
  .exact HW.2.2.2 k h.2 x hx
 case nil.refine_3=>simpa[E.L]using kS k
 case cons.refine_3 a t iha HW=>
  cases c with
  |zero=>simpa[E.L]using iha.1 k h
  |succ c=>simpa[E.L]using HW.2.2.1 k c h
 case j.refine_3 b t _ HW=>
  cases c with
  |zero=>cases h
  |succ c=>simpa[E.L]using HW.2.2.1 k c h
 case g.refine_2 n=>
  split at h
  .rename_i ks Cq;split at h
   next k' hk=>intro r hr;have:=qa ((hv.l n ks Cq).row r hr) hk;rw[ax h]at this;exact this
   .exact Xo
  .exact Xo
 case ln.refine_2=>intro r hr;cases hr
 case lset.refine_2 a i c' x iha _ ihx=>
  rw[ne]at h;intro r hr;rcases wX hr with hr|⟨r0,GR,rfl⟩
  .exact iha.2.1 k c h.1 r hr
  .by_cases hc:c'=c
   .subst hc;have h2:=h.2;rw[show ZJ c' c'=ZB from by simp]at h2;exact tN (ihx.1 k XR)
   .rw[aaE hc];exact iha.2.1 k c h.1 r0 GR
 case lsetb.refine_2 a i c' x iha _ _=>
  rw[ne]at h;intro r hr;have hc:c'≠c:=fun e=>by have:=h.2;rw[e]at this;simp at this
  rcases wX hr with hr|⟨r0,GR,rfl⟩
  .exact iha.2.1 k c h.1 r hr
  .rw[aaE hc];exact iha.2.1 k c h.1 r0 GR
 case lput.refine_2 a i r iha _ ihr=>
  rw[ne]at h;intro x hx;rcases List.mem_or_eq_of_mem_set hx with hx|rfl
  .exact YI
  .exact ihr.2.2.1 k c h.2
 case lq.refine_2 a r iha ihr=>
  rw[ne]at h;intro x hx;simp only[E.R,ZY,dA]at hx;rcases hx with hx|rfl
  .exact YI
  .exact ihr.2.2.1 k c h.2
 case lcat.refine_2 a b iha ihb=>
  rw[ne]at h;intro x hx;simp only[E.R,ZY]at hx;rcases hx with hx|hx
  .exact YI
  .exact ihb.2.1 k c h.2 x hx
 case lrep.refine_2 n r _ ihr=>intro x hx;simp only[E.R,List.mem_replicate]at hx;rw[hx.2];exact ihr.2.2.1 k c h
 case ltake.refine_2 a n iha _=>intro x hx;exact iha.2.1 k c h x (List.mem_of_mem_take hx)
 case ldrop.refine_2 a n iha _=>intro x hx;exact iha.2.1 k c h x (List.mem_of_mem_drop hx)
def E.rng_ok{U:Env}{vk:List VK}(hv:Vk U vk)(e:E)(h:e.rng vk k=ZB):Ae k (e.I U)=ZB:=(E.rngs_ok hv e).1 k h
def E.rok0_ok{U:Env}{vk:List VK}(hv:Vk U vk):∀{ks:List CE} {e:E},e.rok0 vk ks=ZB->az ks (e.L U)=ZB:=by
 intro ks
 induction ks with
 |nil=>intro e h;cases e<;>first|rfl|cases h
 |cons k ks ih=>
   intro e h;cases k with
   |none=>
     cases e<;>first|cases h|skip
     simp only[E.rok0]at h;rename_i b t;simp only[E.L,az,ne];exact⟨by cases b.B U<;>rfl,ih h⟩
   |some k=>
     cases e<;>first|cases h|skip
     simp only[E.rok0,ne]at h;simp only[E.L,az,ne];exact⟨E.rng_ok hv _ h.1,ih h.2⟩
def E.rok_ok{U:Env}{vk:List VK}(hv:Vk U vk){ks:List CE}{e:E}(h:e.rok vk ks=ZB):az ks (e.L U)=ZB:=E.rok0_ok hv (apA (Rm.ini_ok vk) h)
def Xl(b:Bool):Dp ZE (AD b)=ZB:=by cases b<;>rfl
def E.lok_ok{U:Env}{vk:List VK}(hv:Vk U vk){ks:List CE}:∀(e:E),e.lok vk ks=ZB->∀r∈e.R U,az ks r=ZB:=by
 intro e
 induction e<;>intro h<;>simp only[E.lok]at h<;>first|exact Bool.noConfusion h|skip
 case g n=>
  split at h
  next ks' hk=>rw[<-cO h];exact(hv.l n ks' hk).row
  .exact Xo
 case ln=>intro r hr;cases hr
 case lset a i c x iha _ _=>
  rw[ne]at h;intro r hr;rcases wX hr with hr|⟨r0,GR,rfl⟩
  .exact iha h.1 r hr
  .have h2:=h.2;split at h2
   next k hk=>exact pZ (iha h.1 r0 GR) hk (E.rng_ok hv x h2)
   .exact XU
 case lsetb a i c x iha _ _=>
  rw[ne]at h;intro r hr;rcases wX hr with hr|⟨r0,GR,rfl⟩
  .exact iha h.1 r hr
  .have h2:=h.2;split at h2
   next hk=>exact pZ (iha h.1 r0 GR) hk (Xl _)
   .exact XU
 case lput a i r iha _ _=>
  rw[ne]at h;intro x hx;rcases List.mem_or_eq_of_mem_set hx with hx|rfl
  .exact iha h.1 x hx
  .exact E.rok_ok hv h.2
 case lq a r iha _=>
  rw[ne]at h;intro x hx;simp only[E.R,ZY,dA]at hx;rcases hx with hx|rfl
  .exact iha h.1 x hx
  .exact E.rok_ok hv h.2
 case lcat a b iha ihb=>
  rw[ne]at h;intro x hx;simp only[E.R,ZY]at hx;rcases hx with hx|hx
  .exact iha h.1 x hx
  .exact ihb h.2 x hx
 case lrep n r _ _=>intro x hx;simp only[E.R,List.mem_replicate]at hx;rw[hx.2];exact E.rok_ok hv h
 case ltake a n iha _=>intro x hx;exact iha h x (List.mem_of_mem_take hx)
 case ldrop a n iha _=>intro x hx;exact iha h x (List.mem_of_mem_drop hx)
def Kw.look(e:E):List (E×Bool)->Option Bool
 |[]=>ZE
 |(x,b)::l=>if x.same e then ZA b else Kw.look e l
structure Good(sp:Spec)(sm:List Sm)(U:Env)(kw:Kw):Prop where
 pc:∀p∈kw.pc,p.1.B U=p.2
 vk:Vk U kw.vk
 log:∀p∈kw.log,∃s∈sm,s.key=p.1/\sp.pre s.key (p.2.1.D U)/\eqs U (sp.F s.key (p.2.1.D U)) p.2.2 0 s.ks
def ahv{U:Env}{e:E}{b:Bool}:∀{l:List (E×Bool)},(∀p∈l,p.1.B U=p.2)->Kw.look e l=ZA b->e.B U=b
 |(x,c)::l,hl,h=>by
   simp only[Kw.look]at h;split at h
   next hs=>have:=hl (x,c) bW;rw[<-E.same_eq hs];cases h;exact this
   .exact ahv (fun p hp=>hl p (cR _ hp)) h
def W5(vk:List VK):E->Option Bool
 |.lt (.p z) (.w n)=>match vk[n]? with
   |some (.int k)=>if decide (k.max<=z)then ZA ZC else ZE
   |_=>ZE
 |.lt (.w n) (.p z)=>match vk[n]? with
   |some (.int k)=>if decide (z<=k.min)then ZA ZC else ZE
   |_=>ZE
 |.lt (.len _) (.p z)=>if decide (z<=0)then ZA ZC else ZE
 |_=>ZE
def agN{U:Env}{vk:List VK}(hv:Vk U vk){e:E}{b:Bool}(h:W5 vk e=ZA b):e.B U=b:=by
 unfold W5 at h;split at h
 .split at h
  .rename_i k hk;split at h
   next hz=>cases h;have h1:=bF.1 (hv.i _ _ hk);have h2:=Ah hz;simp only[E.B,E.I];exact ff Fn
   .exact Xo
  .exact Xo
 .split at h
  .rename_i k hk;split at h
   next hz=>cases h;have h1:=bF.1 (hv.i _ _ hk);have h2:=Ah hz;simp only[E.B,E.I];exact ff Fn
   .exact Xo
  .exact Xo
 .split at h
  next hz=>cases h;have h2:=Ah hz;simp only[E.B,E.I];exact ff Fn
  .exact Xo
 .exact Xo
def QM(a:E)(y:Int):List (E×Bool)->Bool
 |[]=>ZC
 |(.eq a' (.p x),ZB)::l=>(!fH x y&&a'.same a)||QM a y l
 |_::l=>QM a y l
def amQ:List (E×Bool)->Bool
 |[]=>ZC
 |[(.tt ZB,ZB)]=>ZB
 |_::l=>amQ l
def Kw.ex(e:E)(pc:List (E×Bool)):Option Bool:=match e with
 |.eq a (.p y)=>if amQ pc&&QM a y pc then ZA ZC else ZE
 |_=>ZE
def ab8{U:Env}{a:E}{y:Int}:∀{l:List (E×Bool)},(∀p∈l,p.1.B U=p.2)->QM a y l=ZB->(E.eq a (.p y)).B U=ZC
 |p::l,hp,h=>by
   have ih:=ab8 (a:=a) (y:=y) (l:=l) (fun q hq=>hp q (cR _ hq));unfold QM at h;split at h
   next h0=>cases h0
   .rename_i a' x l' h0;cases h0;rw[fy,ne]at h;rcases h with h|h
    .have h1:=hp _ bW;simp only[E.B,E.I,cQ]at h1;simp only[E.B,E.I,jJ];intro h2;rw[<-E.same_eq h.2,h1]at h2;subst h2;have h3:fH x x=ZB:=by rw[uV];exact beq_self_eq_true x
     rw[h3]at h;cases h.1
    .exact ih h
   next h0=>cases h0;exact ih h
def avV{U:Env}{e:E}{b:Bool}{l:List (E×Bool)}(hp:∀p∈l,p.1.B U=p.2)(h:Kw.ex e l=ZA b):e.B U=b:=by
 unfold Kw.ex at h;split at h
 .split at h
  next hq=>cases h;exact ab8 hp (ne _ _ |>.mp hq).2
  .exact Xo
 .exact Xo
def No(e:E)(k:Bool->Kw->Tr)(kw:Kw):Tr:=
 match W5 kw.vk e with
 |some b=>k b kw
 |none=>match Kw.look e kw.pc with
 |some b=>k b kw
 |none=>match Kw.ex e kw.pc with
 |some b=>k b kw
 |none=>.br e (k ZB {kw with pc:=(e,ZB)::kw.pc}) (k ZC {kw with pc:=(e,ZC)::kw.pc})
def AK:E->(Bool->Kw->Tr)->Kw->Tr
 |.tt b,k,kw=>k b kw
 |.not a,k,kw=>AK a (fun b kw=>k (!b) kw) kw
 |.and a b,k,kw=>AK a (fun x kw=>if x then AK b k kw else k ZC kw) kw
 |e,k,kw=>No e k kw
section
variable {sp:Spec}{sm:List Sm}{U:Env}{G:Env->E->Prop}{I:Nat->List Dt->Prop}
def ara{e:E}{k:Bool->Kw->Tr}{kw:Kw}(h:(No e k kw).holds sp G U I)(hg:Good sp sm U kw):∃An,(k (e.B U) An).holds sp G U I/\Good sp sm U An/\An.vk=kw.vk/\KwGe An kw:=by
 unfold No at h;split at h
 next b hb=>rw[agN hg.vk hb];exact⟨kw,h,hg,rfl,.refl _⟩
 split at h
 next b hb=>rw[ahv hg.pc hb];exact⟨kw,h,hg,rfl,.refl _⟩
 split at h
 next b hb=>rw[avV hg.pc hb];exact⟨kw,h,hg,rfl,.refl _⟩
 .cases hb:e.B U with
  |true=>exact⟨_,h.1 hb,⟨fun p hp=>by
    rcases YS.1 hp with rfl|hp
    .exact hb
    .exact hg.pc p hp,hg.vk,hg.log⟩,rfl,rfl,ZK _⟩
  |false=>exact⟨_,h.2 hb,⟨fun p hp=>by
    rcases YS.1 hp with rfl|hp
    .exact hb
    .exact hg.pc p hp,hg.vk,hg.log⟩,rfl,rfl,ZK _⟩
def aO:∀(e:E) (k:Bool->Kw->Tr) (kw:Kw),(AK e k kw).holds sp G U I->Good sp sm U kw->∃An,(k (e.B U) An).holds sp G U I/\Good sp sm U An/\An.vk=kw.vk/\KwGe An kw
 |.tt b,k,kw,h,hg=>⟨kw,h,hg,rfl,.refl _⟩
 |.not a,k,kw,h,hg=>aO a (fun b kw=>k (!b) kw) kw h hg
 |.and a b,k,kw,h,hg=>by
   obtain⟨Cc,h1,g1,v1,l1⟩:=aO a _ kw h hg;simp only[E.B];cases ha:a.B U with
   |true=>rw[ha]at h1;obtain⟨Dq,h2,g2,v2,l2⟩:=aO b k Cc h1 g1;exact⟨Dq,h2,g2,v2.trans v1,l2.trans l1⟩
   |false=>rw[ha]at h1;exact⟨Cc,h1,g1,v1,l1⟩
 |.p _,k,kw,h,hg|.w _,k,kw,h,hg|.f _ _ _ _,k,kw,h,hg | .F _ _,k,kw,h,hg|.mn _ _,k,kw,h,hg|.mx _ _,k,kw,h,hg|.nil,k,kw,h,hg
 |.len _,k,kw,h,hg|.get _ _ _,k,kw,h,hg | .N _ _,k,kw,h,hg|.getb _ _ _,k,kw,h,hg|.g _,k,kw,h,hg|.ln,k,kw,h,hg|.lset _ _ _ _,k,kw,h,hg|.lsetb _ _ _ _,k,kw,h,hg|.lq _ _,k,kw,h,hg|.lcat _ _,k,kw,h,hg|.lrep _ _,k,kw,h,hg|.ltake _ _,k,kw,h,hg|.ldrop _ _,k,kw,h,hg|.mix _ _,k,kw,h,hg|.lput _ _ _,k,kw,h,hg|.nth _ _,k,kw,h,hg|.ite _ _ _,k,kw,h,hg|.leq _ _,k,kw,h,hg
 |.cons _ _,k,kw,h,hg|.j _ _,k,kw,h,hg|.s _,k,kw,h,hg|.lt _ _,k,kw,h,hg|.eq _ _,k,kw,h,hg|.beq _ _,k,kw,h,hg=>ara h hg
end
inductive RE where
 |none
 |set (id:Nat) (r:RowOb)
 |mk (rs:List RowOb)
 |app (old:Nat) (r:RowOb)
 |view (old:Nat) (q r:RowOb)
 |frz (old:Nat) (q r:RowOb)
 |peek (r:RowOb)
 |tset (old:Nat) (q:RowOb) (tab:Nat) (r:RowOb)
 deriving Repr,Inhabited
def EW:Nat->List RowOb->List (Nat×Option RowOb)
 |_,[]=>[]
 |n,r::l=>(n,ZA r)::EW (n+1) l
def RE.rs(nid:Nat):RE->List (Nat×Option RowOb)
 |.none=>[]
 |.set id r=>[(id,ZA r)]
 |.mk rs=>EW nid rs
 |.app old r=>[(old,Option.none),(nid,ZA r)]
 |.view old q r=>[(old,ZA q),(nid,ZA r)]
 |.frz old q r=>[(old,ZA q),(nid,ZA r)]
 |.peek r=>[(nid,ZA r)]
 |.tset old q tab r=>[(old,ZA q),(tab,ZA r)]
def jX(ld:Nat->Nat->Option C)(b:Nat):Nat->Nat->Option (List C)
 |_,0=>ZA []
 |o,n+1=>match ld b o,jX ld b (o+1) n with
   |some c,ZA cs=>ZA (c::cs)
   |_,_=>ZE
def Qv:List C->Nat->Option (List C)
 |_,0=>ZA []
 |c::cs,n+1=>(Qv cs n).map (c::·)
 |[],_+1=>ZE
def Sn:List C->Nat->Nat->Option (List C)
 |cs,0,n=>Qv cs n
 |_::cs,o+1,n=>Sn cs o n
 |[],_+1,_=>ZE
def aao{ld:Nat->Nat->Option C}{b:Nat}:∀{n:Nat} {cs ds:List C} {o:Nat},Qv cs n=ZA ds->(∀i,ld b (o+i)=cs[i]?)->jX ld b o n=ZA ds
 |0,cs,ds,o,h,_=>by
   have:ds=[]:=by cases cs<;>simpa[Qv]using h.symm
   subst this;rfl
 |n+1,c::cs,ds,o,h,hl=>by simp only[Qv,Ay]at h;obtain⟨es,h1,rfl⟩:=h;have h2:=aao (ld:=ld) (b:=b) (o:=o+1) h1 (fun i=>by rw[show o+1+i=o+(i+1) by omega,hl];rfl);have h0:=hl 0;simp only[ZR,cD]at h0;simp only[jX,h0,h2]
 |n+1,[],ds,o,h,_=>by cases h
def W2{ld:Nat->Nat->Option C}{b:Nat}{n:Nat}:∀{o k:Nat} {cs ds:List C},Sn cs o n=ZA ds->(∀i,ld b (k+i)=cs[i]?)->jX ld b (k+o) n=ZA ds
 |0,k,cs,ds,h,hl=>aao (cs:=cs) (by cases cs<;>exact h) hl
 |o+1,k,c::cs,ds,h,hl=>by have:=W2 (ld:=ld) (b:=b) (o:=o) (k:=k+1) (cs:=cs) (ds:=ds) h (fun i=>by rw[show k+1+i=k+(i+1) by omega,hl];rfl);rwa [show k+(o+1)=k+1+o by omega]
 |o+1,k,[],ds,h,_=>by cases h
structure Vw where
 ev:Operand->Option V
 ld:Nat->Nat->Option C
 rw:Nat->Option RowOb
 fb:Nat->Option (List C)
 nid:Nat
 row:Nat->Nat->Nat->Option (List C)
 rowok:∀b o n cs,row b o n=ZA cs->jX ld b o n=ZA cs
def Vw.sw(vw:Vw)(id:Nat):Option RowOb:=match vw.rw id with
 |some r=>if r.kd.isSl then ZA r else ZE
 |none=>ZE
def Vw.sw_some{vw:Vw}{id:Nat}{r:RowOb}(h:vw.sw id=ZA r):vw.rw id=ZA r/\r.kd=.sl:=by
 unfold Vw.sw at h;split at h
 .rename_i q hq;split at h
  .rename_i hk;cases h;refine⟨hq,?_⟩;cases hd:r.kd with
   |sl=>rfl
   |_=>rw[hd]at hk;cases hk
  .exact Xo
 .exact Xo
def Vw.tw(vw:Vw)(id:Nat):Option RowOb:=match vw.rw id with
 |some r=>if r.kd.fits r.ks then ZA r else ZE
 |none=>ZE
def Vw.tw_some{vw:Vw}{id:Nat}{r:RowOb}(h:vw.tw id=ZA r):vw.rw id=ZA r/\r.kd=CR r.ks:=by
 unfold Vw.tw at h;split at h
 .rename_i q hq;split at h
  next hk=>cases h;exact⟨hq,RK.fits_eq hk⟩
  .exact Xo
 .exact Xo
structure Eff where
 val:V
 al:Option (List C×Nat):=ZE
 rd:List (Nat×Nat):=[]
 wr:List (Nat×Nat×C):=[]
 rr:List Nat:=[]
 re:RE:=.none
 deriving Repr,Inhabited
def rT:Value->Option C
 |.int k z=>ZA (.int k (.p z))
 |.bool b=>ZA (.bool (.tt b))
 |.pointer ZE=>ZA .np
 |.func (.func f) ⟨[]⟩ ⟨[]⟩=>ZA (.fn f)
 |.slice ZE 0 0=>ZA .nsl
 |.nilFunc=>ZA .nf
 |.map ZE=>ZA .nmp
 |.string ⟨⟨[]⟩⟩=>ZA (.str .ln)
 |_=>ZE
def nO:List Value->Option (List C)
 |[]=>ZA []
 |v::vs=>match rT v,nO vs with
   |some c,ZA cs=>ZA (c::cs)
   |_,_=>ZE
def ofValue:Value->Option V
 |.agg ⟨vs⟩=>(nO vs).map .agg
 |v=>(rT v).map .one
def wS{v:Value}{c:C}(h:rT v=ZA c)(U:Env)(j:J):c.den U j=ZA v:=by unfold rT at h;split at h<;>cases h<;>rfl
def rS(U:Env)(j:J):∀{vs:List Value} {cs:List C},nO vs=ZA cs->Af U j cs=ZA vs
 |[],cs,h=>by cases h;rfl
 |v::vs,cs,h=>by
   simp only[nO]at h;cases hc:rT v with
   |none=>rw[hc]at h;cases h
   |some c=>
     cases hl:nO vs with
     |none=>rw[hc,hl]at h;cases h
     |some l=>rw[hc,hl]at h;cases h;simp only[Af,wS hc,rS U j hl]
def ac8{v:Value}{x:V}(h:ofValue v=ZA x)(U:Env)(j:J):x.den U j=ZA v:=by
 unfold ofValue at h;split at h
 .rename_i vs;cases hc:nO vs with
  |none=>rw[hc]at h;cases h
  |some cs=>rw[hc]at h;cases h;simp[V.den,rS U j hc]
 .cases hc:rT v with
  |none=>rw[hc]at h;cases h
  |some c=>rw[hc]at h;cases h;exact wS hc U j
def V.cells:V->List C
 |.one c=>[c]
 |.agg cs=>cs
 |.tup _=>[]
 |.top=>[]
def V.flat:V->Bool
 |.tup _=>ZC
 |.top=>ZC
 |_=>ZB
def zB{U:Env}{j:J}{c:C}{v:Value}(h:c.den U j=ZA v):v.cells = #[v]:=by
 cases c<;>simp only[C.den,Ay]at h
 case ptr b o=>obtain⟨k,_,rfl⟩:=h;rfl
 case fp b o=>obtain⟨k,_,rfl⟩:=h;rfl
 case sl id=>obtain⟨k,_,rfl⟩:=h;rfl
 case ep id Bt e off=>simp only[de,SV.elem,Ay]at h;obtain⟨k,_,a,_,rfl⟩:=h;rfl
 case clo=>obtain⟨x,y,_,_,rfl⟩:=gC h;rfl
 case mp id=>obtain⟨k,_,rfl⟩:=h;rfl
 case yld id=>obtain⟨k,_,rfl⟩:=h;rfl
 case wn id sz lo hi mx=>obtain⟨k,_,rfl⟩:=h;rfl
 case aw b o n sz lo hi mx=>obtain⟨k,_,rfl⟩:=h;rfl
 case pe b o n sz e off=>obtain⟨k,_,rfl⟩:=h;rfl
 case itp id mid=>obtain⟨_,_,_,_,_,rfl⟩:=am4 (U:=U) h;rfl
 all_goals cases h;rfl
def V.cells_ok{U:Env}{j:J}{x:V}{v:Value}(h:x.den U j=ZA v)(hf:x.flat=ZB):Af U j x.cells=ZA v.cells.toList:=by
 cases x with
 |one c=>have h':c.den U j=ZA v:=h;simp[V.cells,Af,h',zB h']
 |agg cs=>simp only[V.den,Ay]at h;obtain⟨vs,EN,rfl⟩:=h;simpa[V.cells,Value.cells]using EN
 |tup _=>cases hf
 |top=>cases hf
def C.solid:C->Bool
 |.undef=>ZC
 |_=>ZB
def C.solid_ok{U:Env}{j:J}{c:C}{v:Value}(h:c.den U j=ZA v)(hs:c.solid=ZB):v.oneCell'=ZB:=by
 cases c<;>simp only[C.den,Ay]at h
 case ptr b o=>obtain⟨k,_,rfl⟩:=h;rfl
 case fp b o=>obtain⟨k,_,rfl⟩:=h;rfl
 case sl id=>obtain⟨k,_,rfl⟩:=h;rfl
 case ep id Bt e off=>simp only[de,SV.elem,Ay]at h;obtain⟨k,_,a,_,rfl⟩:=h;rfl
 case undef=>cases hs
 case clo=>obtain⟨x,y,_,_,rfl⟩:=gC h;rfl
 case mp id=>obtain⟨k,_,rfl⟩:=h;rfl
 case yld id=>obtain⟨k,_,rfl⟩:=h;rfl
 case wn id sz lo hi mx=>obtain⟨k,_,rfl⟩:=h;rfl
 case aw b o n sz lo hi mx=>obtain⟨k,_,rfl⟩:=h;rfl
 case pe b o n sz e off=>obtain⟨k,_,rfl⟩:=h;rfl
 case itp id mid=>obtain⟨_,_,_,_,_,rfl⟩:=am4 (U:=U) h;rfl
 all_goals cases h;rfl
def eb(b:Nat):Nat->Nat->List (Nat×Nat)
 |_,0=>[]
 |o,n+1=>(b,o)::eb b (o+1) n
def eN(b:Nat):Nat->List C->List (Nat×Nat×C)
 |_,[]=>[]
 |o,c::cs=>(b,o,c)::eN b (o+1) cs
def eX:List C->List C->Option E
 |[],[]=>ZA (.tt ZB)
 |.int k a::l,.int k' b::r=>if bJ k k' then(eX l r).map (im (Gq a b))else ZE
 |.bool a::l,.bool b::r=>(eX l r).map (im (QH a b))
 |_,_=>ZE
def aoz(n:Nat)(cs:List C)(e:E):E:=match e with
 |.tt b=>.tt b
 |e=>if Nat.blt n cs.length then .beq e (.tt ZB)else e
def aoy(U:Env)(n:Nat)(cs:List C)(e:E):(aoz n cs e).B U=e.B U:=by
 unfold aoz;split
 .rfl
 .split
  .simp[E.B]
  .rfl
def hG:List C->E
 |.int _ e::l=>.cons e (hG l)
 |.bool e::l=>.j e (hG l)
 |_=>.nil
def aox(n:Nat)(cs ds:List C)(e:E):E:=match e with
 |.tt b=>.tt b
 |e=>if Nat.blt 20 cs.length then .leq (.lq .ln (hG cs)) (.lq .ln (hG ds))else aoz n cs e
def arm(a b:Bool):(AD a==AD b)=(a==b):=by cases a<;>cases b<;>rfl
def lT{U:Env}:∀{cs ds:List C} {e:E},eX cs ds=ZA e->((hG cs).L U==(hG ds).L U)=e.B U
 |[],[],e,h=>by cases h;rfl
 |.int k a::l,.int k' b::r,e,h=>by
   simp only[eX]at h;split at h
   .rw[Ay]at h;obtain⟨e',he,rfl⟩:=h;have:=lT (U:=U) he;simp only[hG,E.L,dV,qq,<-this];rfl
   .exact Xo
 |.bool a::l,.bool b::r,e,h=>by simp only[eX,Ay]at h;obtain⟨e',he,rfl⟩:=h;have:=lT (U:=U) he;simp only[hG,E.L,dV,uu,<-this,<-arm];rfl
def aow(U:Env)(n:Nat){cs ds:List C}{e:E}(h:eX cs ds=ZA e):(aox n cs ds e).B U=e.B U:=by
 unfold aox;split
 .rfl
 .split
  .have:=lT (U:=U) h;rw[<-this];simp only[E.B,E.R,YP];exact Bool.and_true _
  .exact aoy U n cs e
def uG(n:Nat)(cs ds:List C):Option E:=(eX cs ds).map (aox n cs ds)
def Ux:List Value->List Value->Prop
 |[],[]=>True
 |.int k _::l,.int k' _::r=>k=k'/\Ux l r
 |.bool _::l,.bool _::r=>Ux l r
 |_,_=>False
def Dh:List Value->List Value->Bool
 |.int _ a::l,.int _ b::r=>(a==b)&&Dh l r
 |.bool a::l,.bool b::r=>(a==b)&&Dh l r
 |_,_=>ZB
def fD:List C->List C->Bool
 |[],[]=>ZB
 |.int k _::l,.int k' _::r=>bJ k k'&&fD l r
 |.bool _::l,.bool _::r=>fD l r
 |_,_=>ZC
def aL:List Value->List C->Prop
 |[],[]=>True
 |.int k x::l,.int k' _::r=>k=k'/\Ae k x=ZB/\aL l r
 |.bool _::l,.bool _::r=>aL l r
 |_,_=>False
def C.rng(vk:List VK):C->Bool
 |.int k e=>e.rng vk k
 |_=>ZB
def Qz(vk:List VK):List C->Rm->Bool
 |[],_=>ZB
 |.int k e::cs,m=>match e.rngW vk k m with
   |some m'=>Qz vk cs m'
   |none=>ZC
 |_::cs,m=>Qz vk cs m
def Zb(vk:List VK)(cs:List C)(_:List VK)(_:Nat):Bool:=Qz vk cs (Rm.ini vk)
def akB{vk:List VK}:∀(cs:List C) (m:Rm),m.ok vk->Qz vk cs m=ZB->cs.all (C.rng vk)=ZB:=by
 intro cs
 induction cs with
 |nil=>intros;rfl
 |cons c cs ih=>
   intro m hm h;rw[YX,ne];cases c with
   |int k e=>
     simp only[Qz]at h;split at h
     next m' hw=>obtain⟨h1,h2⟩:=yP hm hw;exact⟨h1,ih m' h2 h⟩
     .exact Xo
   |_=>exact⟨rfl,ih m hm h⟩
def rngs_ok{vk:List VK}(cs:List C)(q:List VK)(n:Nat)(_:q=vk.drop n)(h:Zb vk cs q n=ZB):cs.all (C.rng vk)=ZB:=akB cs _ (Rm.ini_ok vk) h
def mN{U:Env}{j:J}{vk:List VK}(hv:Vk U vk):∀{cs zs:List C} {vs:List Value},fD cs zs=ZB->cs.all (C.rng vk)=ZB->Af U j cs=ZA vs->aL vs zs
 |[],[],vs,_,_,h=>by cases h;trivial
 |.int k a::l,.int k' b::r,vs,hk,hr,h=>by
   simp only[fD,ne]at hk;simp only[YX,ne]at hr;simp only[Af,C.den]at h;cases hl:Af U j l with
   |none=>rw[hl]at h;cases h
   |some us=>rw[hl]at h;cases h;exact⟨ax hk.1,E.rng_ok hv a hr.1,mN hv hk.2 hr.2 hl⟩
 |.bool a::l,.bool b::r,vs,hk,hr,h=>by
   simp only[fD]at hk;simp only[YX,ne]at hr;simp only[Af,C.den]at h;cases hl:Af U j l with
   |none=>rw[hl]at h;cases h
   |some us=>rw[hl]at h;cases h;exact mN (cs:=l) (zs:=r) hv hk hr.2 hl
def ah{e:E}{r:List C}(h:aL vs (.int k e::r)):∃x l,vs=.int k x::l/\Ae k x=ZB/\aL l r:=by
 match vs,h with
 |.int k' x::l,h=>exact⟨x,l,by rw[h.1],by rw[<-h.1];exact h.2.1,h.2.2⟩
def dW{e:E}{r:List C}(h:aL vs (.bool e::r)):∃x l,vs=.bool x::l/\aL l r:=by
 match vs,h with
 |.bool x::l,h=>exact⟨x,l,rfl,h⟩
def bT(h:aL vs []):vs=[]:=by
 cases vs with
 |nil=>rfl
 |cons v l=>cases v<;>exact h.elim
def lO{U:Env}{j:J}:∀{cs ds:List C} {e:E},eX cs ds=ZA e->∃vs us,Af U j cs=ZA vs/\Af U j ds=ZA us/\Ux vs us/\Dh vs us=e.B U
 |[],[],e,h=>by cases h;exact⟨[],[],rfl,rfl,trivial,rfl⟩
 |.int k a::l,.int k' b::r,e,h=>by
   simp only[eX]at h;split at h
   next hk=>rw[Ay]at h;obtain⟨e',he,rfl⟩:=h;obtain⟨vs,us,h1,h2,h3,h4⟩:=lO (U:=U) (j:=j) he;refine⟨.int k (a.I U)::vs,.int k' (b.I U)::us,by simp[Af,C.den,h1],by simp[Af,C.den,h2],⟨ax hk,h3⟩,?_⟩;simp[Dh,h4,dV,qq]
   .exact Xo
 |.bool a::l,.bool b::r,e,h=>by simp only[eX,Ay]at h;obtain⟨e',he,rfl⟩:=h;obtain⟨vs,us,h1,h2,h3,h4⟩:=lO (U:=U) (j:=j) he;refine⟨.bool (a.B U)::vs,.bool (b.B U)::us,by simp[Af,C.den,h1],by simp[Af,C.den,h2],h3,?_⟩;simp[Dh,h4,dV,uu]
def adm{U:Env}{j:J}{n:Nat}{cs ds:List C}{e:E}(h:uG n cs ds=ZA e):∃vs us,Af U j cs=ZA vs/\Af U j ds=ZA us/\Ux vs us/\Dh vs us=e.B U:=by unfold uG at h;rw[Ay]at h;obtain⟨e',he,rfl⟩:=h;obtain⟨vs,us,h1,h2,h3,h4⟩:=lO (U:=U) (j:=j) he;exact⟨vs,us,h1,h2,h3,by rw[aow U n he];exact h4⟩
def lj:E->Nat->Option E
 |.lq a r,i=>match dG a with
   |.p z=>if fH z i then ZA r else lj a i
   |_=>lj a i
 |.lcat a b,i=>match dG a with
   |.p z=>if decide (z<=(i:Int))then lj b (i-z.toNat)else lj a i
   |_=>lj a i
 |_,_=>ZE
def ir:E->Nat->Option E
 |.cons a _,0=>ZA a
 |.cons _ t,c+1=>ir t c
 |.j _ t,c+1=>ir t c
 |_,_=>ZE
def lA:E->Nat->Option E
 |.j b _,0=>ZA b
 |.cons _ t,c+1=>lA t c
 |.j _ t,c+1=>lA t c
 |_,_=>ZE
def mK(l e:E):Option E:=match e with
 |.p (.ofNat i)=>lj l i
 |_=>ZE
def rk(l e:E)(c:Nat):E:=match(mK l e).bind (ir · c)with
 |some x=>x
 |none=>.get l e c
def qp(l e:E)(c:Nat):E:=match(mK l e).bind (lA · c)with
 |some x=>x
 |none=>.getb l e c
def wG(U:Env):∀(l:E) (i:Nat) (r:E),lj l i=ZA r->(l.R U)[i]? =ZA (r.L U):=by
 intro l
 induction l<;>intro i r h<;>simp only[lj]at h<;>first|cases h|skip
 case lq a r0 ih _=>
  have left:lj a i=ZA r->((E.lq a r0).R U)[i]? =ZA (r.L U):=fun h=>by have h1:=ih i r h;have As:=(cZ.1 h1).1;simp only[E.R];rw[A9 As];exact h1
  split at h
  .rename_i z hz;split at h
   next IJ=>cases h;have h1:=dF U a;rw[hz,cX IJ]at h1;simp only[E.I]at h1;have h2:(a.R U).length=i:=Fn;simp only[E.R];rw[Bo Fn,h2];simp
   .exact left h
  .exact left h
 case lcat a b iha ihb=>
  have left:lj a i=ZA r->((E.lcat a b).R U)[i]? =ZA (r.L U):=fun h=>by have h1:=iha i r h;have As:=(cZ.1 h1).1;simp only[E.R];rw[A9 As];exact h1
  split at h
  .rename_i z hz;split at h
   next IJ=>have IJ:=Ah IJ;have h1:=dF U a;rw[hz]at h1;simp only[E.I]at h1;have h2:=ihb _ r h;simp only[E.R];rw[Bo Fn,show i-(a.R U).length=i-z.toNat by omega];exact h2
   .exact left h
  .exact left h
def adH(U:Env):∀(r:E) (c:Nat) (x:E),ir r c=ZA x->(r.L U).getD c 0=x.I U:=by
 intro r
 induction r<;>intro c x h<;>cases c<;>simp only[ir]at h<;>first|cases h|skip
 .rfl
 .exact XX
 .exact XX
def aiR(U:Env):∀(r:E) (c:Nat) (x:E),lA r c=ZA x->(r.L U).getD c 0=AD (x.B U):=by
 intro r
 induction r<;>intro c x h<;>cases c<;>simp only[lA]at h<;>first|cases h|skip
 .exact XX
 .rfl
 .exact XX
def wZ{U:Env}{l e r:E}(h:mK l e=ZA r)(c:Nat):gt (l.R U) (e.I U) c=(r.L U).getD c 0:=by
 unfold mK at h;split at h
 next i=>have h1:=wG U l i r h;show((l.R U).getD i []).getD c 0=_;rw[show(l.R U).getD i []=r.L U by rw[bZ,h1];rfl]
 .exact Xo
def yX(U:Env)(l e:E)(c:Nat):(rk l e c).I U=gt (l.R U) (e.I U) c:=by
 unfold rk;split
 next x hx=>rw[de]at hx;obtain⟨r,h1,h2⟩:=hx;rw[wZ h1,adH U r c x h2]
 .rfl
def uq(U:Env)(l e:E)(c:Nat):(qp l e c).B U=(gt (l.R U) (e.I U) c==1):=by
 unfold qp;split
 next x hx=>rw[de]at hx;obtain⟨r,h1,h2⟩:=hx;rw[wZ h1,aiR U r c x h2];cases x.B U<;>rfl
 .rfl
def H4(l e:E)(c:Nat):CE->C
 |some k=>.int k (rk l e c)
 |none=>.bool (qp l e c)
def lc(l e:E):Nat->List CE->List C
 |_,[]=>[]
 |c,k::ks=>H4 l e c k::lc l e (c+1) ks
def PR:Nat->E->Option E
 |0,t=>ZA t
 |c+1,.cons _ t=>PR c t
 |c+1,.j _ t=>PR c t
 |_,_=>ZE
def sH:List CE->E->Option (List C)
 |[],_=>ZA []
 |some k::ks,.cons a t=>(sH ks t).map (.int k a::·)
 |none::ks,.j a t=>(sH ks t).map (.bool a::·)
 |_,_=>ZE
def TX(l e:E)(c:Nat)(ks:List CE):List C:=match((mK l e).bind (PR c)).bind (sH ks)with
 |some cs=>cs
 |none=>lc l e c ks
def lP:∀{c:Nat} {row t:E},PR c row=ZA t->(∀m,ir row (c+m)=ir t m)/\∀m,lA row (c+m)=lA t m
 |0,row,t,h=>by cases h;exact⟨fun m=>by rw[bP],fun m=>by rw[bP]⟩
 |c+1,.cons _ u,t,h=>by obtain⟨h1,h2⟩:=lP (c:=c) (row:=u) h;exact⟨fun m=>by rw[show c+1+m=(c+m)+1 by omega];exact h1 m,fun m=>by rw[show c+1+m=(c+m)+1 by omega];exact h2 m⟩
 |c+1,.j _ u,t,h=>by obtain⟨h1,h2⟩:=lP (c:=c) (row:=u) h;exact⟨fun m=>by rw[show c+1+m=(c+m)+1 by omega];exact h1 m,fun m=>by rw[show c+1+m=(c+m)+1 by omega];exact h2 m⟩
def qP{l e row:E}(hl:mK l e=ZA row):∀(ks:List CE) (c:Nat) (t:E) (cs:List C),(∀m,ir row (c+m)=ir t m)->(∀m,lA row (c+m)=lA t m)->sH ks t=ZA cs->cs=lc l e c ks
 |[],c,t,cs,_,_,h=>by cases h;rfl
 |some k::ks,c,t,cs,h1,h2,h=>by
   cases t<;>simp only[sH]at h<;>first|cases h|skip
   rename_i a t;rw[Ay]at h;obtain⟨Gv,h3,rfl⟩:=h;have:=qP hl ks (c+1) t Gv (fun m=>by rw[show c+1+m=c+(m+1) by omega,h1];rfl) (fun m=>by rw[show c+1+m=c+(m+1) by omega,h2];rfl) h3;have h0:ir row c=ZA a:=h1 0;simp only[lc,H4,rk,hl,Option.bind_some,h0,this]
 |none::ks,c,t,cs,h1,h2,h=>by
   cases t<;>simp only[sH]at h<;>first|cases h|skip
   rename_i a t;rw[Ay]at h;obtain⟨Gv,h3,rfl⟩:=h;have:=qP hl ks (c+1) t Gv (fun m=>by rw[show c+1+m=c+(m+1) by omega,h1];rfl) (fun m=>by rw[show c+1+m=c+(m+1) by omega,h2];rfl) h3;have h0:lA row c=ZA a:=h2 0;simp only[lc,H4,qp,hl,Option.bind_some,h0,this]
def agK(l e:E)(c:Nat)(ks:List CE):TX l e c ks=lc l e c ks:=by
 unfold TX;split
 next cs h=>simp only[de]at h;obtain⟨t,⟨row,h1,h2⟩,h3⟩:=h;obtain⟨h4,h5⟩:=lP h2;exact qP h1 ks c t cs h4 h5 h3
 .rfl
def gg(vk:List VK)(l e:E):Nat->List CE->List C->Option E
 |_,_,[]=>ZA l
 |c,ZA k::ks,.int k' x::cs=>if bJ k' k&&x.rng vk k then gg vk (.lset l e c x) e (c+1) ks cs else ZE
 |c,ZE::ks,.bool x::cs=>gg vk (.lsetb l e c x) e (c+1) ks cs
 |_,_,_=>ZE
def PF:List CE->List C->Option E
 |[],[]=>ZA .nil
 |some k::ks,.int k' x::cs=>if bJ k' k then(PF ks cs).map (.cons x)else ZE
 |none::ks,.bool x::cs=>(PF ks cs).map (.j x)
 |_,_=>ZE
def Gt(vk:List VK)(ks:List CE)(cs:List C):Option E:=bif Zb vk cs vk 0 then PF ks cs else ZE
def UG(r l:E):E:=match l with
 |.ln=>.lq .ln r
 |l=>.lcat (.lq .ln r) l
def aiK(U:Env)(r l:E):(UG r l).R U=r.L U::l.R U:=by unfold UG;split<;>simp[E.R]
def PJ(vk:List VK)(ks:List CE):Nat->List C->Option E
 |0,[]=>ZA .ln
 |n+1,cs=>match Gt vk ks (cs.take ks.length),PJ vk ks n (cs.drop ks.length)with
   |some r,ZA l=>ZA (UG r l)
   |_,_=>ZE
 |0,_::_=>ZE
def JW:List C->Option (List CE)
 |[]=>ZA []
 |.int k _::cs=>(JW cs).map (ZA k::·)
 |.bool _::cs=>(JW cs).map (ZE::·)
 |_=>ZE
def kz:CE->Int->Value
 |some k,x=>.int k x
 |none,x=>.bool (x==1)
def Bm:List CE->List Int->List Value
 |k::ks,x::xs=>kz k x::Bm ks xs
 |_,_=>[]
def flat(ks:List CE)(L:LL):List Value:=L.flatMap (Bm ks)
def RdRow(w:World)(Bt:Nat)(s:SV)(xs:List Value):Prop:=xs.length=s.n*Bt/\s.n<=s.c/\s.c<=maxLen/\(s.a=ZE->s.n=0/\s.c=0)/\∀a,s.a=ZA a->∀i u,xs[i]? =ZA u->w.cell? (a.add i)=ZA u
def SV.blk(s:SV)(o:Bool):Option Nat:=if(o ||!ZJ s.c 0)=ZB then s.v.ownBlock else ZE
def ay{s:SV}{k:Nat}(h:s.blk o=ZA k):s.v.ownBlock=ZA k:=by
 unfold SV.blk at h;split at h
 .exact h
 .exact Xo
def mY{s:SV}{k:Nat}(ho:o=ZB)(h:s.v.ownBlock=ZA k):s.blk o=ZA k:=by rw[ho];exact h
def bN{s:SV}{k:Nat}(h:s.blk ZC=ZA k):s.blk o=ZA k:=by
 cases o with
 |false=>exact h
 |true=>exact ay h
def mZ{s:SV}{k:Nat}(hc:s.c≠0)(h:s.v.ownBlock=ZA k):s.blk ZC=ZA k:=by
 unfold SV.blk;have:ZJ s.c 0=ZC:=by cases hb:ZJ s.c 0 with
  |false=>rfl
  |true=>exact ai (Ak hb) hc
 simpa[this]using h
def jt(vk:List VK)(rw:Nat->Option RowOb)(ks:List CE)(ty:Nat):C->Option E
 |.sl id=>match rw id with
   |some r=>if di r.ks ks&&(ZJ r.ty ty&&r.l.lok vk ks)then ZA r.l else ZE
   |none=>ZE
 |.nsl=>ZA .ln
 |_=>ZE
def yQ:List CE->List Int->E
 |some _::ks,x::xs=>.cons (.p x) (yQ ks xs)
 |none::ks,x::xs=>.j (.tt (fH x 1)) (yQ ks xs)
 |_,_=>.nil
def M8(ks:List CE):E->LL->E
 |e,[]=>e
 |e,r::l=>M8 ks (.lq e (yQ ks r)) l
def Sk(ks:List CE):LL->E
 |[]=>.ln
 |r::l=>UG (yQ ks r) (Sk ks l)
def I5(ks:List CE)(L:LL):Bool:=L.all (az ks)&&(decide (L.length<=maxLen)&&(decide (0<ks.length) &&!di ks Dn))
def TW{U:Env}:∀{ks:List CE} {xs:List Int},az ks xs=ZB->(yQ ks xs).L U=xs
 |[],[],_=>rfl
 |some k::ks,x::xs,h=>by simp only[az,ne]at h;simp only[yQ,E.L,E.I,TW h.2]
 |none::ks,x::xs,h=>by simp only[az,ne,Dp,fy,cQ]at h;simp only[yQ,E.L,E.B,TW h.2];rcases h.1 with rfl|rfl<;>rfl
def asd{U:Env}{ks:List CE}:∀{L:LL} {e:E},L.all (az ks)=ZB->(M8 ks e L).R U=e.R U++L
 |[],e,_=>by simp[M8]
 |r::l,e,h=>by simp only[YX,ne]at h;rw[M8,asd h.2];simp only[E.R,TW h.1,List.append_assoc,List.singleton_append]
def asg{U:Env}{ks:List CE}:∀{L:LL},L.all (az ks)=ZB->(Sk ks L).R U=L
 |[],_=>rfl
 |r::l,h=>by simp only[YX,ne]at h;rw[Sk,aiK,asg h.2,TW h.1]
def yR{U:Env}{ks:List CE}{L:LL}(h:I5 ks L=ZB):(M8 ks .ln L).R U=L/\RowsIn ks L/\0<ks.length/\CR ks=.sl:=by
 simp only[I5,ne,aE,Bool.not_eq_true']at h;refine⟨by rw[asd h.1];rfl,⟨fun r hr=>CB.1 h.1 r hr,h.2.1⟩,h.2.2.1,?_⟩;rcases cH ks with⟨h1,_⟩|⟨_,h1⟩
 .rw[h1]at h;exact ai h.2.2.2 ST
 .exact h1
def HD(vk:List VK)(rw:Nat->Option RowOb):CK->C->E->Option E
 |.int k,.int k' e,t=>if bJ k k'&&e.rng vk k then ZA (.cons e t)else ZE
 |.bool,.bool e,t=>ZA (.j e t)
 |.fn g,.fn g',t=>if ZJ g g' then ZA t else ZE
 |.p k z,.int k' (.p z'),t=>if bJ k k'&&fH z z' then ZA t else ZE
 |.sl ks ty,c,t=>(jt vk rw ks ty c).map fun l=>.N l t
 |.nf,.nf,t=>ZA t
 |.any,_,t=>ZA t
 |.rl ks ty L,.sl id,t=>match rw id with
   |some r=>if(di r.ks ks&&ZJ r.ty ty)&&((r.l.same (M8 ks .ln L)||r.l.same (Sk ks L))&&I5 ks L)then ZA t else ZE
   |none=>ZE
 |_,_,_=>ZE
def xB(vk:List VK)(rw:Nat->Option RowOb):List CK->List C->E->Option E
 |[],[],t=>ZA t
 |k::ks,c::cs,t=>(xB vk rw ks cs t).bind (HD vk rw k c)
 |_,_,_=>ZE
def aq9(vk:List VK)(rw:Nat->Option RowOb):CK->C->E->Option E
 |.int k,.int k' e,t=>if bJ k k' then ZA (.cons e t)else ZE
 |.bool,.bool e,t=>ZA (.j e t)
 |.fn g,.fn g',t=>if ZJ g g' then ZA t else ZE
 |.p k z,.int k' (.p z'),t=>if bJ k k'&&fH z z' then ZA t else ZE
 |.sl ks ty,c,t=>(jt vk rw ks ty c).map fun l=>.N l t
 |.nf,.nf,t=>ZA t
 |.any,_,t=>ZA t
 |.rl ks ty L,.sl id,t=>match rw id with
   |some r=>if(di r.ks ks&&ZJ r.ty ty)&&((r.l.same (M8 ks .ln L)||r.l.same (Sk ks L))&&I5 ks L)then ZA t else ZE
   |none=>ZE
 |_,_,_=>ZE
def alH{vk:List VK}{rw:Nat->Option RowOb}{k:CK}{c:C}{t e:E}(hc:c.rng vk=ZB)(h:aq9 vk rw k c t=ZA e):HD vk rw k c t=ZA e:=by
 unfold aq9 at h;split at h
 .rename_i k1 k2 x;split at h
  next h1=>obtain rfl:=ax h1;have h2:x.rng vk k1=ZB:=hc;simp[HD,h1,h2];exact ZN h
  .exact Xo
 all_goals first|exact h|cases h
def UE(vk:List VK)(rw:Nat->Option RowOb):List CK->List C->E->Option E
 |[],[],t=>ZA t
 |k::ks,c::cs,t=>(UE vk rw ks cs t).bind (aq9 vk rw k c)
 |_,_,_=>ZE
def ach{vk:List VK}{rw:Nat->Option RowOb}:∀{ks:List CK} {cs:List C} {t e:E},cs.all (C.rng vk)=ZB->UE vk rw ks cs t=ZA e->xB vk rw ks cs t=ZA e
 |[],[],_,_,_,h=>h
 |k::ks,c::cs,t,e,hr,h=>by simp only[YX,ne]at hr;simp only[UE,de]at h;obtain⟨e1,h1,h2⟩:=h;simp only[xB,de];exact⟨e1,ach hr.2 h1,alH hr.1 h2⟩
def Ir(vk:List VK)(rw:Nat->Option RowOb)(ks:List CK)(cs:List C)(t:E):Option E:=bif Zb vk cs vk 0 then UE vk rw ks cs t else ZE
def xA{vk:List VK}{rw:Nat->Option RowOb}{ks:List CK}{cs:List C}{t e:E}(h:Ir vk rw ks cs t=ZA e):xB vk rw ks cs t=ZA e:=by
 unfold Ir at h;cases hr:Zb vk cs vk 0 with
 |false=>rw[hr]at h;cases h
 |true=>rw[hr]at h;exact ach (rngs_ok cs vk 0 rfl hr) h
def QT(vk:List VK)(vw:Vw)(ks:List CE)(id z:Nat)(e t:E):Option E:=match vw.sw id with
 |some r=>if di r.ks ks&&ZJ z ks.length then(Gt vk ks (lc r.l e 0 ks)).map fun x=>.N (.lq .ln x) t else ZE
 |none=>ZE
def Nq(vk:List VK)(vw:Vw):Sh->V->E->Option E
 |.agg ks,.agg cs,t=>Ir vk vw.tw ks cs t
 |.one (.el ks _),.one (.ep id z e 0),t=>QT vk vw ks id z e t
 |.one k,.one c,t=>HD vk vw.tw k c t
 |.ptr ks,.one (.ptr b 0),t=>if 0<ks.length then(vw.row b 0 ks.length).bind fun cs=>Ir vk vw.tw ks cs t else ZE
 |.ptr ks,.one (.fp b 0),t=>(vw.fb b).bind fun cs=>if cs.all C.solid then Ir vk vw.tw ks cs t else ZE
 |_,_,_=>ZE
def Iq(vk:List VK)(vw:Vw):List Sh->List V->Option E
 |[],[]=>ZA .nil
 |s::ss,v::vs=>(Iq vk vw ss vs).bind (Nq vk vw s v)
 |_,_=>ZE
def fZ:List C->List Nat
 |[]=>[]
 |.sl id::cs=>id::fZ cs
 |.ep id _ _ _::cs=>id::fZ cs
 |_::cs=>fZ cs
def iJ(vw:Vw):List Sh->List V->List Nat
 |.ptr ks::ss,.one (.ptr b 0)::vs=>(match vw.row b 0 ks.length with|some cs=>fZ cs|none=>[])++iJ vw ss vs
 |.ptr _::ss,.one (.fp b 0)::vs=>(match vw.fb b with|some cs=>fZ cs|none=>[])++iJ vw ss vs
 |_::ss,v::vs=>fZ v.cells++iJ vw ss vs
 |_,_=>[]
def uQ:List Sh->List V->List (Nat×Nat)
 |.ptr ks::ss,.one (.ptr b 0)::vs=>eb b 0 ks.length++uQ ss vs
 |_::ss,_::vs=>uQ ss vs
 |_,_=>[]
def aiy(row:List Int):List Value:=((row.drop 3).take (row.getD 2 0).toNat).map fun x=>.int .u64 x
def aix(row:List Int)(x:SV):List Value:=[.int .i64 (row.getD 0 0),x.v,.int .u64 (row.getD 1 0)]
def gY:LL->List SV->List Value
 |r::L,x::xs=>aix r x++gY L xs
 |_,_=>[]
def Cg:Obj->Bool
 |.cells _ _ _=>ZB
 |_=>ZC
structure EvIn(w:World)(row:List Int)(x:SV):Prop where
 n:(x.n:Int)=row.getD 2 0
 most:x.n<=5
 rest:(row.drop 3).drop x.n=ZM (5-x.n) 0
 rd:RdRow w 1 x (aiy row)
 blk:∀k,x.blk ZC=ZA k->∃o,w.heap[k]? =ZA o/\Cg o=ZB
def TRow(w:World)(ks:List CE)(s:SV)(L:LL):Prop:=
 match CR ks with
 |.ev=>∃ins:List SV,ins.length=L.length/\RdRow w 3 s (gY L ins)/\∀(i:Nat) row x,L[i]? =ZA row->ins[i]? =ZA x->EvIn w row x
 |_=>RdRow w ks.length s (flat ks L)
def xG(w:World)(k:CK)(xs:List Dt)(v:Value)(r:List Dt):Prop:=
 match k with
 |.int k=>∃x,xs=.z x::r/\v=.int k x/\Ae k x=ZB
 |.bool=>∃b,xs=.z (AD b)::r/\v=.bool b
 |.fn g=>xs=r/\v=.func (.func g) #[] #[]
 |.p k z=>xs=r/\v=.int k z
 |.sl ks _=>∃L s,xs=.l L::r/\v=s.v/\s.n=L.length/\TRow w ks s L/\RowsIn ks L/\∀k,s.blk ZC=ZA k->k<w.heap.size
 |.nf=>xs=r/\v=.nilFunc
 |.any=>xs=r
 |.el ks _=>∃row p,xs=.l [row]::r/\v=.pointer (ZA p)/\az ks row=ZB/\p.block<w.heap.size/\∀(c:Nat) u,(flat ks [row])[c]? =ZA u->w.cell? (p.add c)=ZA u
 |.rl ks _ L=>xs=r/\I5 ks L=ZB/\∃s,v=s.v/\s.n=L.length/\TRow w ks s L/\∀k,s.blk ZC=ZA k->k<w.heap.size
def lz(w:World):List CK->List Dt->List Value->List Dt->Prop
 |[],xs,vs,r=>xs=r/\vs=[]
 |k::ks,xs,vs,r=>∃v us r',vs=v::us/\xG w k xs v r'/\lz w ks r' us r
def nB(w:World):List Sh->List Dt->List Value->Prop
 |[],xs,vals=>xs=[]/\vals=[]
 |.one c::ss,xs,vals=>∃v vs r,vals=v::vs/\xG w c xs v r/\nB w ss r vs
 |.agg cs::ss,xs,vals=>∃us vs r,vals=.agg us.toArray::vs/\lz w cs xs us r/\nB w ss r vs
 |.ptr cs::ss,xs,vals=>∃kk us vs r,vals=.pointer (ZA ⟨kk,0,ZE⟩)::vs/\lz w cs xs us r/\kk<w.heap.size/\(∀o u,us[o]? =ZA u->w.cell? ⟨kk,o,ZE⟩=ZA u)/\nB w ss r vs
def LQ:CK->List Dt->List Dt->Prop
 |.int k,xs,r=>∃x,xs=.z x::r/\Ae k x=ZB
 |.bool,xs,r=>∃b,xs=.z (AD b)::r
 |.sl ks _,xs,r=>∃L,xs=.l L::r/\∀x∈L,az ks x=ZB
 |.rl ks _ L,xs,r=>xs=r/\I5 ks L=ZB
 |.el ks _,xs,r=>∃row,xs=.l [row]::r/\az ks row=ZB
 |_,xs,r=>xs=r
def PS:List CK->List Dt->List Dt->Prop
 |[],xs,r=>xs=r
 |k::ks,xs,r=>∃r',LQ k xs r'/\PS ks r' r
def QJ:List Sh->List Dt->Prop
 |[],xs=>xs=[]
 |s::ss,xs=>∃r,PS s.cks xs r/\QJ ss r
structure OwnRow(w:World)(base:Nat)(ty:Nat)(ks:List CE)(s:SV)(L:LL):Prop where
 n:s.n=L.length
 own:w.ownsRow base ty ks.length s.v s.n (flat ks L)
 rows:RowsIn ks L
 pos:0<ks.length
def aH(v0:Nat):Nat->Nat->List CK->List C
 |_,_,[]=>[]
 |n,id,.int k::ks=>.int k (.w (v0+n))::aH v0 (n+1) id ks
 |n,id,.bool::ks=>.bool (.s (v0+n))::aH v0 (n+1) id ks
 |n,id,.fn g::ks=>.fn g::aH v0 (n+1) id ks
 |n,id,.p _ _::ks=>.undef::aH v0 (n+1) id ks
 |n,id,.sl _ _::ks=>.sl id::aH v0 (n+1) (id+1) ks
 |n,id,.nf::ks=>.nf::aH v0 (n+1) id ks
 |n,id,.any::ks=>.undef::aH v0 (n+1) id ks
 |n,id,.rl _ _ _::ks=>.undef::aH v0 (n+1) id ks
 |n,id,.el _ _::ks=>.undef::aH v0 (n+1) id ks
def CK.isSl:CK->Bool
 |.sl _ _=>ZB
 |_=>ZC
def bM(v0:Nat):Nat->Nat->List Sh->List (Bool×List C)
 |_,_,[]=>[]
 |n,id,.one k::l=>(ZC,aH v0 n id [k])::bM v0 (n+1) (if k.isSl then id+1 else id) l
 |n,id,.agg ks::l=>(ZB,aH v0 n id ks)::bM v0 (n+ks.length) (id+(ks.filter CK.isSl).length) l
 |n,id,.ptr ks::l=>(ZB,[.undef])::bM v0 (n+ks.length) id l
def gi(res:List Sh)(tup:Bool)(v0 nid:Nat):V:=
 if tup then .tup (bM v0 0 nid res)else
 match bM v0 0 nid res with
 |[(ZB,cs)]=>.agg cs
 |[(ZC,[c])]=>.one c
 |_=>.one .undef
def Pa(s:Sm)(v0 nid:Nat):V:=gi s.res s.tup v0 nid
def bE(v0:Nat):Nat->List CK->List RowOb
 |_,[]=>[]
 |n,.sl ks ty::l=>⟨ks,ty,.g (v0+n),ZB,CR ks⟩::bE v0 (n+1) l
 |n,_::l=>bE v0 (n+1) l
section
variable {U:Env}{j:J}{vk:List VK}
end
def gJ:List CK->List Dt->Prop
 |[],_=>True
 |.int k::ks,.z x::ds=>Ae k x=ZB/\gJ ks ds
 |.int _::_,_=>False
 |.sl ks0 _::ks,.l L::ds=>RowsIn ks0 L/\gJ ks ds
 |.sl _ _::_,_=>False
 |_::ks,_::ds=>gJ ks ds
 |_::_,[]=>False
structure TIok(P:Program)(t:Nat)(i:TI):Prop where
 agg:∀w,(isAgg t).run P w=.ok i.agg w
 size:∀w,(sizeOf t).run P w=.ok i.size w
 zero:∃z,(∀w,(zeroValue t).run P w=.ok z w)/\∀(U:Env) j,Af U j i.zero=ZA z.cells.toList
 fieldAt:∀f off ft,i.fields[f]? =ZA (off,ft)->∀w (a:Addr),(Instr.fieldAt t (.pointer (ZA a)) f).run P w=.ok (.pointer (ZA (a.add off))) w
 field:∀f off ft,i.fields[f]? =ZA (off,ft)->∀w cs,(Instr.field t (.agg cs) f).run P w=(part ft cs off).run P w
 arr:∀n e,i.arr=ZA (n,e)->P.underlying t=ZA (.array n e)
 str:i.agg=ZB->i.arr=ZE->∃fs,P.underlying t=ZA (.struct fs)/\fs.toList.map (fun f=>(f.offset,f.type))=i.fields
 ik:∀k,i.ik=ZA k->P.underlying t=ZA (.int k)
 und:∃d,P.underlying t=ZA d
 eq:i.eqok=ZB->∀vs us,aL vs i.zero->aL us i.zero->∀w,(Op.equal t (.agg vs.toArray) (.agg us.toArray)).run P w=.ok (Dh vs us) w
 grd:i.eqok=ZB->P.eqGuardType P.depth t=ZC
 isb:i.isb=ZB->P.underlying t=ZA .bool
 sle:∀e,i.sle=ZA e->P.underlying t=ZA (.slice e)
 fnt:i.fnt=ZB->∀f a b w,(Op.equal t (.func (.func f) a b) .nilFunc).run P w=.ok ZC w/\(Op.equal t .nilFunc .nilFunc).run P w=.ok ZB w
 mapt:∀k e,i.mapt=ZA (k,e)->P.underlying t=ZA (.map k e)
 ptr:i.kd=1->∃e,P.underlying t=ZA (.pointer e)
 stg:i.kd=2->P.underlying t=ZA .string
 key:i.keyok=ZB->∀vs,aL vs i.zero->∀b w,(Instr.checkKey b 10000 t (.agg vs.toArray)).run P w=.ok () w
 zsh:∀z,(∀w,(zeroValue t).run P w=.ok z w)->(i.agg=ZB->z=.agg z.cells)/\(i.agg=ZC->z.cells = #[z])
 info:∃CL z,P.info? t=ZA CL/\CL.size=i.size/\CL.bytes=i.bytes/\CL.zero=ZA z/\z.cells.toList.length=i.size/\∀(U:Env) j,Af U j i.zero=ZA z.cells.toList
def sx(vk:List VK)(vw:Vw)(f:Nat)(args:List V):List Sm->Option (Sm×E)
 |[]=>ZE
 |s::l=>if ZJ s.f f then(match Iq vk vw s.args args with|some e=>ZA (s,e)|none=>sx vk vw f args l)else sx vk vw f args l
def qD{vk:List VK}{vw:Vw}{f:Nat}{args:List V}{s:Sm}{e:E}:∀{l:List Sm},sx vk vw f args l=ZA (s,e)->s∈l/\s.f=f/\Iq vk vw s.args args=ZA e
 |x::l,h=>by
   simp only[sx]at h;split at h
   .rename_i hf;split at h
    next e' he=>cases h;exact⟨bW,Ak hf,he⟩
    .have:=qD h;exact⟨cR _ this.1,this.2⟩
   .have:=qD h;exact⟨cR _ this.1,this.2⟩
def uF(key:Nat)(e:E):List (Nat×E×Nat)->Option Nat
 |[]=>ZE
 |(m,x,v0)::l=>if ZJ m key&&x.same e then ZA v0 else uF key e l
def sy{key:Nat}{e:E}{v0:Nat}:∀{l:List (Nat×E×Nat)},uF key e l=ZA v0->(key,e,v0)∈l
 |(m,x,u)::l,h=>by
   simp only[uF]at h;split at h
   next hm=>simp only[ne]at hm;cases h;rw[Ak hm.1,E.same_eq hm.2];exact bW
   .exact cR _ (sy h)
def xH:CK->VK
 |.int k=>.int k
 |.sl ks _=>.list ks
 |_=>.bool
def Ew(ev:Operand->Option V):List Operand->Option (List V)
 |[]=>ZA []
 |x::l=>match ev x,Ew ev l with
   |some v,ZA vs=>ZA (v::vs)
   |_,_=>ZE
def HC(ev:Operand->Option V):List Operand->Option (List (Option (Bool×Nat×Nat)))
 |[]=>ZA []
 |x::l=>match ev x,HC ev l with
   |some (.one (.ptr b o)),ZA vs=>ZA (ZA (ZB,b,o)::vs)
   |some (.one (.fp b o)),ZA vs=>ZA (ZA (ZC,b,o)::vs)
   |some (.one .np),ZA vs=>ZA (ZE::vs)
   |_,_=>ZE
def aiT(cx:Cx)(vw:Vw)(g:Nat)(args:List V)(kw:Kw)(k:Eff->Kw->Tr):Tr:=
 match sx kw.vk vw g args cx.sm with
 |none=>.stuck (100000+g)
 |some (s,e)=>match s.inp with
   |some (ks,ty)=>match args with
     |[.one (.sl id)]=>match vw.sw id with
       |some r=>if r.own&&(di r.ks ks&&ZJ r.ty ty)then
        .call s.key [.sl ks ty] (.N r.l .nil) kw.vk.length (k {val:=.tup [],rr:=[id],re:=.set id {r with l:=.g kw.vk.length}} {kw with vk:=kw.vk++[.list ks]})
         else .stuck 170
       |none=>.stuck 171
     |_=>.stuck 172
   |none=>match uF s.key e kw.log with
   |some v0=>k {val:=Pa s v0 vw.nid,rd:=uQ s.args args,rr:=iJ vw s.args args,re:=.mk (bE v0 0 s.ks)} kw
   |none=>.call s.key s.ks e kw.vk.length (k {val:=Pa s kw.vk.length vw.nid,rd:=uQ s.args args,rr:=iJ vw s.args args,re:=.mk (bE kw.vk.length 0 s.ks)} {kw with log:=(s.key,e,kw.vk.length)::kw.log,vk:=kw.vk++s.ks.map xH})
def anq(cx:Cx)(vw:Vw)(g:Nat)(args:List V)(kw:Kw)(k:Eff->Kw->Tr):Tr:=match ap (800000+g) cx.hints with
 |none=>aiT cx vw g args kw k
 |some _=>.stuck 300
def M6(f:E->E->E)(k0:IntKind):E->List V->Option E
 |e,[]=>ZA e
 |e,.one (.int k x)::l=>if bJ k k0 then M6 f k0 (f e x) l else ZE
 |_,_=>ZE
def ao0(cx:Cx):Bool:=(ap 999999 cx.hints).isSome
def arH(cx:Cx):Nat:=if ao0 cx then 3 else 12
def Nk(cx:Cx)(op:BinOp)(xt:Nat)(x y:V)(kw:Kw)(k:Eff->Kw->Tr):Tr:=
 match x,y with
 |.one (.int k1 a),.one (.int k2 b)=>
   match op with
   |.shl|.shr=>
     if k2.signed then AK (Bl b (.p 0)) (fun neg kw=>if neg then .panic else k {val:=.one (.int k1 (kh op k1 a b))} kw) kw
     else if b.rng kw.vk k2 then k {val:=.one (.int k1 (kh op k1 a b))} kw else .stuck 11
   |_=>
     if bJ k1 k2 then
      match op with
      |.add|.sub|.mul|.and|.or|.xor|.andNot=>k {val:=.one (.int k1 (kh op k1 a b))} kw
      |.quo|.rem=>AK (Gq b (.p 0)) (fun z kw=>if z then .panic else k {val:=.one (.int k1 (kh op k1 a b))} kw) kw
      |.eql=>k {val:=.one (.bool (Gq a b))} kw
      |.neq=>k {val:=.one (.bool (eD (Gq a b)))} kw
      |.lss=>k {val:=.one (.bool (Bl a b))} kw
      |.leq=>k {val:=.one (.bool (eD (Bl b a)))} kw
      |.gtr=>k {val:=.one (.bool (Bl b a))} kw
      |.geq=>k {val:=.one (.bool (eD (Bl a b)))} kw
      |_=>.stuck 12
     else .stuck 13
 |.one (.bool a),.one (.bool b)=>
   match op with
   |.eql=>match ap xt cx.ty with
     |some i=>if i.isb then k {val:=.one (.bool (QH a b))} kw else .stuck 14
     |none=>.stuck 14
   |.neq=>match ap xt cx.ty with
     |some i=>if i.isb then k {val:=.one (.bool (eD (QH a b)))} kw else .stuck 14
     |none=>.stuck 14
   |_=>.stuck 15
 |.one (.clo _ _ _),.one .nf=>
   match ap xt cx.ty with
   |some i=>if i.fnt then
    match op with
    |.eql=>k {val:=.one (.bool (.tt ZC))} kw
    |.neq=>k {val:=.one (.bool (.tt ZB))} kw
    | _=>.stuck 51
     else .stuck 52
   |none=>.stuck 52
 |.one (.fn _),.one .nf|.one .nf,.one .nf=>
   match ap xt cx.ty with
   |some i=>if i.fnt then
    match op,x with
    |.eql,.one .nf=>k {val:=.one (.bool (.tt ZB))} kw
    |.neq,.one .nf=>k {val:=.one (.bool (.tt ZC))} kw
    |.eql,_=>k {val:=.one (.bool (.tt ZC))} kw
    |.neq,_=>k {val:=.one (.bool (.tt ZB))} kw
    | _,_=>.stuck 51
     else .stuck 52
   |none=>.stuck 52
 |.agg cs,.agg ds=>
   match ap xt cx.ty,uG (arH cx) cs ds with
   |some i,ZA e=>
     if i.eqok&&((fD cs i.zero&&Zb kw.vk cs kw.vk 0)&&(fD ds i.zero&&Zb kw.vk ds kw.vk 0))then
      match op with
      |.eql=>k {val:=.one (.bool e)} kw
      |.neq=>k {val:=.one (.bool (eD e))} kw
      |_=>.stuck 16
     else .stuck 17
   |_,_=>.stuck 18
 |_,_=>.stuck 19
def ud(e:E)(n:Nat)(k:Nat->Kw->Tr):Nat->Kw->Tr
 |0,_=>.panic
 |m+1,kw=>AK (Gq e (.p (n-(m+1):Nat))) (fun b kw=>if b then k (n-(m+1)) kw else ud e n k m kw) kw
def PG(cx:Cx)(ft:Nat)(cs:List C)(off:Nat):Option V:=
 match ap ft cx.ty with
 |some i=>if i.agg then(if off+i.size<=cs.length then ZA (.agg ((cs.drop off).take i.size))else ZE)else(cs[off]?).map .one
 |none=>ZE
def lh:List C->Nat->List C->List C
 |cs,_,[]=>cs
 |cs,off,v::r=>lh (cs.set off v) (off+1) r
def rq(pl:Nat->Option (Nat×Nat)):List C->List (Nat×V)->Option (List C)
 |cs,[]=>ZA cs
 |cs,(i,v)::l=>match pl i with
   |some (off,size)=>if v.flat&&(ZJ v.cells.length size&&decide (off+size<=cs.length))then rq pl (lh cs off v.cells) l else ZE
   |none=>ZE
def KI(ev:Operand->Option V):List (Nat×Operand)->Option (List (Nat×V))
 |[]=>ZA []
 |(i,x)::l=>match ev x,KI ev l with
   |some v,ZA vs=>ZA ((i,v)::vs)
   |_,_=>ZE
def oQ(ty:List (Nat×TI)):List (Nat×Nat)->Option (List (Nat×Nat))
 |[]=>ZA []
 |(off,ft)::l=>match ap ft ty,oQ ty l with
   |some i,ZA r=>ZA ((off,i.size)::r)
   |_,_=>ZE
def aiX(cx:Cx)(t:Nat)(A5:List (Nat×V)):Option V:=
 match ap t cx.ty with
 |some i=>match i.arr with
   |some (_,et)=>match ap et cx.ty with
     |some ie=>(rq (fun m=>ZA (m*ie.size,ie.size)) i.zero A5).map .agg
     |none=>ZE
   |none=>if i.agg then(match oQ cx.ty i.fields with
     |some pl=>(rq (fun m=>pl[m]?) i.zero A5).map .agg
     |none=>ZE)else ZE
 |none=>ZE
def E.isLit:E->Bool
 |.p _=>ZB
 |_=>ZC
def Ks(e:E)(n:Nat):E:=im (eD (Bl e (.p 0))) (Bl e (.p n))
def LR(k:IntKind)(sz c:Nat):Nat->List C->Option E
 |0,_=>ZA .nil
 |n+1,cs=>match cs[c]?,LR k sz c n (cs.drop sz)with
   |some (.int k' a),ZA t=>if bJ k k' then ZA (.cons a t)else ZE
   |_,_=>ZE
def zC(e:E)(n sz:Nat)(cs:List C):Nat->Nat->Option (List C)
 |_,0=>ZA []
 |c,m+1=>match cs[c]? with
   |some (.int k _)=>match LR k sz c n cs,zC e n sz cs (c+1) m with
     |some l,ZA r=>ZA (.int k (.nth e l)::r)
     |_,_=>ZE
   |_=>ZE
def FU(c:E):Nat->List C->List C->Option (List C)
 |off+1,x::xs,vc=>(FU c off xs vc).map (x::·)
 |0,xs,[]=>ZA xs
 |0,.int k a::xs,.int k' x::vc=>if bJ k k' then(FU c 0 xs vc).map (.int k (.ite c x a)::·)else ZE
 |_,_,_=>ZE
def K9(e:E)(off sz:Nat)(vc:List C):Nat->Nat->List C->Option (List C)
 |_,0,cs=>ZA cs
 |m,n+1,cs=>match FU (.eq e (.p m)) off (cs.take sz) vc,K9 e off sz vc (m+1) n (cs.drop sz)with
   |some a,ZA b=>ZA (a++b)
   |_,_=>ZE
def GS(e l:E):E:=im (eD (Bl e (.p 0))) (Bl e (dG l))
def K6(vw:Vw):List V->E
 |[]=>.tt ZB
 |.one (.ep id _ e 0)::l=>match vw.sw id with
   |some r=>im (GS e r.l) (K6 vw l)
   |none=>K6 vw l
 |_::l=>K6 vw l
def are(cx:Cx)(vw:Vw)(g:Nat)(args:List V)(kw:Kw)(k:Eff->Kw->Tr):Tr:=AK (K6 vw args) (fun b kw=>if b then anq cx vw g args kw k else .stuck 262) kw
def IY(vk:List VK)(l:E):E:=match dG l with
 |.p z=>.p z
 |e=>if e.rng vk .i64 then e else .F .i64 e
def DR(a b:E):E:=match b with
 |.lq .ln r=>.lq a r
 |b=>match a with|.ln=>b|a=>.lcat a b
def EP:Int:=1073741824
def Vi(cx:Cx)(vw:Vw)(op:Op)(kw:Kw)(k:Eff->Kw->Tr):Tr:=
 match op with
 |.move x|.assign x=>match vw.ev x with
   |some v=>k {val:=v} kw
   |none=>.stuck 1
 |.alloc t=>match ap t cx.ty with
   |some i=>k {val:=.one (.ptr vw.nid 0),al:=ZA (i.zero,t)} kw
   |none=>.stuck 2
 |.box t x=>match vw.ev x with
   |some v=>if v.flat then k {val:=.one (.ptr vw.nid 0),al:=ZA (v.cells,t)} kw else .stuck 3
   |none=>.stuck 3
 |.load t x=>match vw.ev x,ap t cx.ty with
   |some (.one (.ptr b o)),ZA i=>
     if i.agg then(match vw.row b o i.size with
      |some cs=>k {val:=.agg cs,rd:=eb b o i.size} kw
      |none=>.stuck 4)
     else(match vw.ld b o with
      |some c=>k {val:=.one c,rd:=[(b,o)]} kw
      |none=>.stuck 4)
   |some (.one (.fp b o)),ZA i=>
     if i.agg then(match(vw.fb b).bind fun cs=>Sn cs o i.size with
      |some cs=>if cs.all C.solid then k {val:=.agg cs} kw else .stuck 226
      |none=>.stuck 4)
     else(match(vw.fb b).bind (·[o]?)with
      |some c=>if c.solid then k {val:=.one c} kw else .stuck 226
      |none=>.stuck 4)
   |some (.one (.pe b o n sz e off)),ZA i=>match vw.row b o (n*sz)with
     |some cs=>if decide (off+i.size<=sz)then
      AK (Ks e n) (fun ok kw=>if ok then
       (match zC e n sz cs off i.size with
       |some ds=>if i.agg then k {val:=.agg ds,rd:=eb b o (n*sz)} kw else(match ds with
         |[d]=>k {val:=.one d,rd:=eb b o (n*sz)} kw
         |_=>.stuck 160)
       |none=>.stuck 161)
       else .stuck 162) kw
       else .stuck 163
     |none=>.stuck 164
   |some (.one (.ep id Bt e off)),ZA i=>match vw.sw id with
     |some r=>if ZJ r.ks.length Bt&&decide (off+i.size<=Bt)then
      AK (GS e r.l) (fun b kw=>if b then
       (if i.agg then k {val:=.agg (TX r.l e off ((r.ks.drop off).take i.size)),rr:=[id]} kw
       else match r.ks[off]? with
        |some ck=>k {val:=.one (H4 r.l e off ck),rr:=[id]} kw
        |none=>.stuck 53)
       else .stuck 54) kw
       else .stuck 55
     |none=>.stuck 56
   |_,_=>.stuck 5
 |.store t x y=>match vw.ev x,vw.ev y,ap t cx.ty with
   |some (.one (.ptr b o)),ZA v,ZA i=>if v.flat&&(ZJ v.cells.length i.size&&v.cells.all C.solid)then k {val:=.one .undef,wr:=eN b o v.cells} kw else .stuck 6
   |some (.one (.pe b o n sz e off)),ZA v,ZA i=>match vw.row b o (n*sz)with
     |some cs=>if v.flat&&(ZJ v.cells.length i.size&&(decide (off+i.size<=sz)&&ZJ cs.length (n*sz)))then
      AK (Ks e n) (fun ok kw=>if ok then
       (match K9 e off sz v.cells 0 n cs with
       |some ds=>if ds.all C.solid&&(cs.all C.solid&&v.cells.all C.solid)then k {val:=.one .undef,rd:=eb b o (n*sz),wr:=eN b o ds} kw else .stuck 165
       |none=>.stuck 166)
       else .stuck 167) kw
       else .stuck 168
     |none=>.stuck 169
   |some (.one (.ep id Bt e off)),ZA v,ZA i=>match vw.sw id with
     |some r=>if r.own&&(ZJ r.ks.length Bt&&(v.flat&&(ZJ v.cells.length i.size&&decide (off+i.size<=Bt))))then
      AK (GS e r.l) (fun b kw=>if b then
       (match gg kw.vk r.l e off (r.ks.drop off) v.cells with
        |some l=>k {val:=.one .undef,rr:=[id],re:=.set id {r with l:=l}} kw
        |none=>.stuck 57)
       else .stuck 58) kw
       else .stuck 59
     |none=>.stuck 62
   |_,_,_=>.stuck 7
 |.nilCheck x=>match vw.ev x with
   |some (.one (.ptr b o))=>k {val:=.one (.ptr b o)} kw
   |some (.one (.fp b o))=>k {val:=.one (.fp b o)} kw
   |some (.one (.pe b o n sz e off))=>k {val:=.one (.pe b o n sz e off)} kw
   |some (.one (.fn g))=>k {val:=.one (.fn g)} kw
   |some (.one (.ep id Bt e off))=>k {val:=.one (.ep id Bt e off)} kw
   |some (.one (.clo g fs ps))=>k {val:=.one (.clo g fs ps)} kw
   |some (.one .np)=>.panic
   |_=>.stuck 8
 |.binOp op xt x y _=>match vw.ev x,vw.ev y with
   |some v,ZA u=>Nk cx op xt v u kw k
   |_,_=>.stuck 9
 |.unOp op _ x=>match op,vw.ev x with
   |.not,ZA (.one (.bool e))=>k {val:=.one (.bool (eD e))} kw
   |.neg,ZA (.one (.int kd e))=>k {val:=.one (.int kd (kh .sub kd (.p 0) e))} kw
   |.xor,ZA (.one (.int kd e))=>k {val:=.one (.int kd (kh .xor kd (.p (if kd.signed then -1 else kd.max)) e))} kw
   |_,_=>.stuck 10
 |.convert s d x=>match vw.ev x,ap d cx.ty,ap s cx.ty with
   |some (.one (.int _ e)),ZA i,ZA _=>match i.ik with
     |some kd=>k {val:=.one (.int kd (if e.rng kw.vk kd then e else TN kd e))} kw
     |none=>.stuck 20
   |_,_,_=>.stuck 21
 |.fieldAddr s x f=>match vw.ev x,ap s cx.ty with
   |some (.one (.ptr b o)),ZA i=>match i.fields[f]? with
     |some (off,_)=>k {val:=.one (.ptr b (o+off))} kw
     |none=>.stuck 22
   |some (.one (.fp b o)),ZA i=>match i.fields[f]? with
     |some (off,_)=>k {val:=.one (.fp b (o+off))} kw
     |none=>.stuck 22
   |some (.one (.pe b o n sz e off0)),ZA i=>match i.fields[f]? with
     |some (off,_)=>k {val:=.one (.pe b o n sz e (off0+off))} kw
     |none=>.stuck 22
   |some (.one (.ep id Bt e o)),ZA i=>match i.fields[f]? with
     |some (off,_)=>k {val:=.one (.ep id Bt e (o+off))} kw
     |none=>.stuck 22
   |_,_=>.stuck 23
 |.field s x f=>match vw.ev x,ap s cx.ty with
   |some (.agg cs),ZA i=>match i.fields[f]? with
     |some (off,ft)=>match PG cx ft cs off with
       |some v=>k {val:=v} kw
       |none=>.stuck 24
     |none=>.stuck 25
   |_,_=>.stuck 26
 |.indexAddr t x y=>match vw.ev x,vw.ev y,ap t cx.ty with
   |some (.one (.ptr b o)),ZA (.one (.int _ e)),ZA i=>match i.arr with
     |some (n,et)=>match ap et cx.ty with
       |some ie=>if ao0 cx&&(!e.isLit &&!ie.fnt)then AK (Ks e n) (fun ok kw=>if ok then k {val:=.one (.pe b o n ie.size e 0)} kw else .panic) kw else ud e n (fun m kw=>k {val:=.one (.ptr b (o+m*ie.size))} kw) n kw
       |none=>.stuck 27
     |none=>.stuck 28
   |some (.one (.ep id Bt e0 o)),ZA (.one (.int _ e)),ZA i=>match i.arr with
     |some (n,et)=>match ap et cx.ty with
       |some ie=>ud e n (fun m kw=>k {val:=.one (.ep id Bt e0 (o+m*ie.size))} kw) n kw
       |none=>.stuck 27
     |none=>.stuck 28
   |some (.one (.sl id)),ZA (.one (.int _ e)),ZA i=>match i.sle with
     |some et=>match ap et cx.ty,vw.sw id with
       |some ie,ZA r=>if ZJ r.ks.length ie.size then AK (GS e r.l) (fun b kw=>if b then k {val:=.one (.ep id ie.size e 0),rr:=[id]} kw else .panic) kw else .stuck 63
       |_,_=>.stuck 64
     |none=>.stuck 65
   |some (.one .nsl),ZA (.one (.int _ _)),ZA _=>.panic
   |_,_,_=>.stuck 29
 |.index t x y=>match vw.ev x,vw.ev y,ap t cx.ty with
   |some (.agg cs),ZA (.one (.int _ e)),ZA i=>match i.arr with
     |some (n,et)=>match ap et cx.ty with
       |some ie=>ud e n (fun m kw=>match PG cx et cs (m*ie.size)with
         |some v=>k {val:=v} kw
         |none=>.stuck 30) n kw
       |none=>.stuck 31
     |none=>.stuck 32
   |_,_,_=>.stuck 33
 |.pick c x y=>match vw.ev c,vw.ev x,vw.ev y with
   |some (.one (.bool e)),ZA u,ZA v=>AK e (fun b kw=>k {val:=if b then u else v} kw) kw
   |_,_,_=>.stuck 42
 |.build t ps=>match KI vw.ev ps.toList with
   |some A5=>match aiX cx t A5 with
     |some v=>k {val:=v} kw
     |none=>.stuck 43
   |none=>.stuck 44
 |.buildSlice t n ps=>match KI vw.ev ps.toList,ap t cx.ty with
   |some A5,ZA i=>match i.sle with
     |some et=>match ap et cx.ty with
       |some ie=>match JW ie.zero,rq (fun m=>ZA (m*ie.size,ie.size)) ((ZM n ie.zero).flatten) A5 with
         |some ks,ZA cs=>match PJ kw.vk ks n cs with
           |some l=>if decide (n*ie.size<=16777216)&&(decide (0<ie.size)&&ZJ ks.length ie.size)then k {val:=.one (.sl vw.nid),re:=.mk [⟨ks,et,l,ZB,.sl⟩]} kw else .stuck 66
           |none=>.stuck 67
         |_,_=>.stuck 68
       |none=>.stuck 69
     |none=>.stuck 74
   |_,_=>.stuck 75
 |.makeSlice t x y=>match vw.ev x,vw.ev y,ap t cx.ty with
   |some (.one (.int _ e)),ZA (.one (.int _ e')),ZA i=>match i.sle with
     |some et=>match ap et cx.ty with
       |some ie=>match JW ie.zero with
         |some ks=>match Gt kw.vk ks ie.zero with
           |some r=>if e.same e'&&(decide (0<ie.size)&&(ZJ ks.length ie.size&&decide (ie.bytes<=65536)))then
            AK (Bl e (.p 0)) (fun b kw=>if b then .panic else AK (Bl e (.p EP)) (fun b kw=>if b then
             k {val:=.one (.sl vw.nid),re:=.mk [⟨ks,et,.lrep e r,ZB,.sl⟩]} kw else .panic) kw) kw
             else .stuck 76
           |none=>.stuck 77
         |none=>.stuck 78
       |none=>.stuck 79
     |none=>.stuck 84
   |_,_,_=>.stuck 85
 |.slice t x lo hi ZE=>match vw.ev x,ap t cx.ty with
   |some (.one (.sl id)),ZA i=>match i.sle,vw.sw id with
     |some et,ZA r=>match ap et cx.ty with
       |some ie=>if ZJ r.ks.length ie.size&&ZJ r.ty et then
        (match hi.map vw.ev,lo.map vw.ev with
        |none,ZA (ZA (.one (.int _ a)))=>AK (Bl a (.p 0)) (fun b kw=>if b then .panic else AK (Bl (dG r.l) a) (fun b kw=>if b then .panic else
         k {val:=.one (.sl vw.nid),rr:=[id],re:=.view id {r with own:=ZC} ⟨r.ks,et,.ldrop r.l a,ZC,.sl⟩} kw) kw) kw
        | _,_=>.stuck 86)
         else .stuck 87
       |none=>.stuck 88
     |_,_=>.stuck 89
   |_,_=>.stuck 90
 |.makeMap t ZE=>.stuck 300
 |.lookup t x y ok=>.stuck 300
 |.mapUpdate t x y z=>.stuck 300
 |.range t x=>.stuck 300
 |.entry x=>.stuck 300
 |.makeFunc fn fs ps=>match fn,HC vw.ev fs.toList,HC vw.ev ps.toList with
   |.func g,ZA a,ZA b=>k {val:=.one (.clo g a b)} kw
   |_,_,_=>.stuck 119
 |.extract x n=>match vw.ev x with
   |some (.tup vs)=>match vs[n]? with
     |some (ZB,cs)=>k {val:=.agg cs} kw
     |some (ZC,[c])=>k {val:=.one c} kw
     |_=>.stuck 34
   |_=>.stuck 35
 |.call c=>match c.callee with
   |.value f=>match vw.ev f,Ew vw.ev c.args.toList with
     |some (.one (.fn g)),ZA args=>are cx vw g args kw k
     |_,_=>.stuck 36
   |.builtin .len=>match Ew vw.ev c.args.toList,c.argTypes.toList with
     |some [.one (.sl id)],[t]=>match ap t cx.ty,vw.sw id with
       |some i,ZA r=>if i.sle.isSome then k {val:=.one (.int .i64 (IY kw.vk r.l)),rr:=[id]} kw else .stuck 91
       |_,_=>.stuck 92
     |some [.one .nsl],[t]=>match ap t cx.ty with
       |some i=>if i.sle.isSome then k {val:=.one (.int .i64 (.p 0))} kw else .stuck 91
       |none=>.stuck 92
     |_,_=>.stuck 93
   |.builtin .append=>match Ew vw.ev c.args.toList,c.argTypes.toList with
     |some [.one s,.one (.sl id)],[t,t']=>match ap t cx.ty,vw.sw id with
       |some i,ZA r=>match i.sle with
         |some et=>match ap et cx.ty with
           |some ie=>if ZJ t t'&&(ZJ r.ty et&&(ZJ r.ks.length ie.size&&(decide (0<ie.size)&&decide (ie.bytes<=65536))))then
            (match s with
            |.nsl=>AK (Bl (dG r.l) (.p EP)) (fun b kw=>if b then k {val:=.one (.sl vw.nid),rr:=[id],re:=.mk [⟨r.ks,et,r.l,ZB,.sl⟩]} kw else .panic) kw
            |.sl old=>match vw.sw old with
              |some q=>if q.own&&(ZJ q.ty et&&(di q.ks r.ks &&!ZJ old id))then
               AK (im (Bl (dG q.l) (.p EP)) (Bl (dG r.l) (.p EP))) (fun b kw=>if b then k {val:=.one (.sl vw.nid),rr:=[old,id],re:=.app old ⟨r.ks,et,DR q.l r.l,ZB,.sl⟩} kw else .panic) kw
                else .stuck 94
              |none=>.stuck 95
            | _=>.stuck 96)
             else .stuck 97
           |none=>.stuck 98
         |none=>.stuck 99
       |_,_=>.stuck 101
     |_,_=>.stuck 102
   |.builtin .min=>match Ew vw.ev c.args.toList with
     |some (.one (.int k0 e)::l)=>match M6 QF k0 e l with
       |some e'=>k {val:=.one (.int k0 e')} kw
       |none=>.stuck 37
     |_=>.stuck 38
   |.builtin .max=>match Ew vw.ev c.args.toList with
     |some (.one (.int k0 e)::l)=>match M6 QG k0 e l with
       |some e'=>k {val:=.one (.int k0 e')} kw
       |none=>.stuck 39
     |_=>.stuck 40
   |_=>.stuck 41
 |_=>.stuck 50
def E5(U:Env)(j:J)(w:World)(ld:Nat->Nat->Option C)(rd:List (Nat×Nat)):Prop:=∀p∈rd,∀c,ld p.1 p.2=ZA c->∃k v,j.b p.1=ZA k/\c.den U j=ZA v/\w.cell? ⟨k,p.2,ZE⟩=ZA v
def LI(j:J)(w:World)(wr:List (Nat×Nat×C)):Prop:=∀p∈wr,∃k u,j.b p.1=ZA k/\w.cell? ⟨k,p.2.1,ZE⟩=ZA u/\w.frozen? ⟨k,p.2.1,ZE⟩=ZC
def sN(U:Env)(j:J):List (Nat×Nat×C)->World->World->Prop
 |[],w,w'=>w'=w
 |(b,o,c)::l,w,w'=>∃k v,j.b b=ZA k/\c.den U j=ZA v/\sN U j l (w.setCell ⟨k,o,ZE⟩ v) w'
def du:∀{ks:List CE} {r:List Int},az ks r=ZB->(Bm ks r).length=ks.length
 |[],[],_=>rfl
 |k::ks,x::xs,h=>by simp only[az,ne]at h;simp[Bm,du h.2]
def oO:∀{ks:List CE} {r:List Int} {c:Nat} {k:CE},az ks r=ZB->ks[c]? =ZA k->(Bm ks r)[c]? =ZA (kz k (r.getD c 0))
 |k0::ks,x::xs,c,k,h,hc=>by
   simp only[az,ne]at h;cases c with
   |zero=>simp at hc;subst hc;simp[Bm]
   |succ c=>simpa[Bm]using oO h.2 Yp
 |[],_,c,k,_,hc=>by simp at hc
def abf:∀{ks:List CE} {r:List Int} {c:Nat} {k:CE},az ks r=ZB->ks[c]? =ZA k->∀x,(Bm ks r).set c (kz k x)=Bm ks (r.set c x)
 |k0::ks,y::ys,c,k,h,hc,x=>by
   simp only[az,ne]at h;cases c with
   |zero=>simp at hc;subst hc;simp[Bm]
   |succ c=>simp[Bm,abf h.2 Yp x]
 |[],_,c,k,_,hc,_=>by simp at hc
def alx(ks:List CE):flat ks []=[]:=rfl
def cN(ks:List CE)(r:List Int)(L:LL):flat ks (r::L)=Bm ks r++flat ks L:=by simp[flat]
def qC(ks:List CE)(L M:LL):flat ks (L++M)=flat ks L++flat ks M:=by simp[flat]
def bw{ks:List CE}:∀{L:LL},(∀r∈L,az ks r=ZB)->(flat ks L).length=L.length*ks.length
 |[],_=>by simp[flat]
 |r::L,h=>by rw[cN,eo,du (h r bW),bw (fun x hx=>h x (cR _ hx)),YQ,Nat.succ_mul,Nat.add_comm]
def mR{ks:List CE}{c:Nat}{k:CE}(hc:ks[c]? =ZA k):∀{L:LL} {i:Nat},(∀r∈L,az ks r=ZB)->i<L.length->(flat ks L)[i*ks.length+c]? =ZA (kz k ((L.getD i []).getD c 0))
 |[],i,_,hi=>ai hi (by simp)
 |r::L,i,h,hi=>by
   have CY:c<ks.length:=by
    rcases bC c ks.length with h1|h1
    .exact h1
    .rw[cn h1]at hc;cases hc
   have hl:=du (h r bW);cases i with
   |zero=>rw[cN,Nat.zero_mul,bP,A9 Fn,oO (h r bW) hc];rfl
   |succ i=>rw[cN,Bo Yn,hl,show(i+1)*ks.length+c-ks.length=i*ks.length+c by rw[Nat.succ_mul];omega];rw[mR hc (fun x hx=>h x (cR _ hx)) XS];rfl
def qA{ks:List CE}:∀{L:LL} (n:Nat),(∀r∈L,az ks r=ZB)->(flat ks L).take (n*ks.length)=flat ks (L.take n)
 |[],n,_=>by simp[flat]
 |r::L,n,h=>by
   have hl:=du (h r bW);cases n with
   |zero=>simp[flat]
   |succ n=>rw[cN,List.take_succ_cons,cN,<-qA n (fun x hx=>h x (cR _ hx)),List.take_append,hl,Nat.succ_mul,List.take_of_length_le Fn];congr 2;omega
def qB{ks:List CE}:∀{L:LL} (n:Nat),(∀r∈L,az ks r=ZB)->(flat ks L).drop (n*ks.length)=flat ks (L.drop n)
 |[],n,_=>by simp[flat]
 |r::L,n,h=>by
   have hl:=du (h r bW);cases n with
   |zero=>simp[flat]
   |succ n=>rw[cN,List.drop_succ_cons,<-qB n (fun x hx=>h x (cR _ hx)),List.drop_append,hl,Nat.succ_mul,List.drop_of_length_le Fn,YP];congr 1;omega
def ab6{ks:List CE}{c:Nat}{k:CE}(hc:ks[c]? =ZA k)(x:Int):∀{L:LL} {i:Nat},(∀r∈L,az ks r=ZB)->i<L.length->(flat ks L).set (i*ks.length+c) (kz k x)=flat ks (L.set i ((L.getD i []).set c x))
 |[],i,_,hi=>ai hi (by simp)
 |r::L,i,h,hi=>by
   have CY:c<ks.length:=by
    rcases bC c ks.length with h1|h1
    .exact h1
    .rw[cn h1]at hc;cases hc
   have hl:=du (h r bW);cases i with
   |zero=>rw[cN,Nat.zero_mul,bP,List.set_append_left _ _ Fn,abf (h r bW) hc];rfl
   |succ i=>rw[cN,List.set_append_right _ _ Yn,hl,show(i+1)*ks.length+c-ks.length=i*ks.length+c by rw[Nat.succ_mul];omega];rw[ab6 hc x (fun y hy=>h y (cR _ hy)) XS];show _=flat ks (r::L.set i _);rw[cN];rfl
def uE{ks:List CE}:∀{L:LL},∀u∈flat ks L,u.oneCell'=ZB:=by
 have row:∀(ks:List CE) (r:List Int),∀u∈Bm ks r,u.oneCell'=ZB:=by
  intro ks
  induction ks with
  |nil=>intro r u hu;simp[Bm]at hu
  |cons k ks ih=>
    intro r u hu;cases r with
    |nil=>simp[Bm]at hu
    |cons x xs=>
      simp only[Bm,YS]at hu;rcases hu with rfl|hu
      .cases k<;>rfl
      .exact ih xs u hu
 intro L u hu;simp only[flat,List.mem_flatMap]at hu;obtain⟨r,_,hu⟩:=hu;exact row ks r u hu
structure SlOk(U:Env)(base:Nat)(w:World)(s:SV)(r:RowOb):Prop where
 n:s.n=(r.l.R U).length
 rows:RowsIn r.ks (r.l.R U)
 pos:0<r.ks.length
 lt:∀k,s.blk r.own=ZA k->k<w.heap.size
 own:r.own=ZB->w.ownsRow base r.ty r.ks.length s.v s.n (flat r.ks (r.l.R U))
 rd:RdRow w r.ks.length s (flat r.ks (r.l.R U))
def ano(agg:Bool)(vs:List Value):Value:=if agg then .agg vs.toArray else vs.headD undef
def entV(ks:List CE)(nk:Nat)(ka va:Bool)(i:Nat)(r:List Int):MapEntry:=⟨ano ka ((Bm ks r).take nk),ano va ((Bm ks r).drop nk),i⟩
def atY(ks:List CE)(nk:Nat)(ka va:Bool):Nat->LL->List MapEntry
 |_,[]=>[]
 |i,r::L=>entV ks nk ka va i r::atY ks nk ka va (i+1) L
def idxs(L:LL):List Nat:=L.map fun r=>(r.getD 0 0).toNat
def Le(U:Env)(s:SV)(r:RowOb)(o:Obj):Prop:=
 match r.kd with
 |.sl=>False
 |.ev=>False
 |.map nk ka va=>o=.map (atY r.ks nk ka va 0 (r.l.R U)).toArray (r.l.R U).length
 |.tab=>∃(ps:List (Option Addr)) (ty:Nat),o=.cells (ps.map Value.pointer).toArray ty (0,0)
 |.it _ n=>r.ks=[ZA .i64]/\o=.mapIter (ZA s.n) (n.I U).toNat (idxs (r.l.R U)).toArray (n.I U).toNat/\(r.l.R U).Nodup/\∀x∈r.l.R U,0<=x.getD 0 0/\x.getD 0 0<n.I U
structure HdOk(U:Env)(base:Nat)(w:World)(s:SV)(r:RowOb):Prop where
 own:r.own=ZB
 rows:RowsIn r.ks (r.l.R U)
 c:s.c=1
 at':∃g o,s.a=ZA ⟨g,0,ZE⟩/\base<=g/\w.heap[g]? =ZA o/\Le U s r o
structure EiOk(z:List (Nat×Obj))(row:List Int)(x:SV):Prop where
 n:(x.n:Int)=row.getD 2 0
 most:x.n<=5
 rest:(row.drop 3).drop x.n=ZM (5-x.n) 0
 rd:∀w:World,(∀p∈z,w.heap[p.1]? =ZA p.2)->RdRow w 1 x (aiy row)
 blk:∀k,x.blk ZC=ZA k->∃o,(k,o)∈z
def EiOk.mono{z z':List (Nat×Obj)}{row:List Int}{x:SV}(h:EiOk z row x)(hz:∀p∈z,p∈z'):EiOk z' row x:=⟨h.n,h.most,h.rest,fun w hw=>h.rd w (fun p hp=>hw p (hz p hp)),fun k hk=>let⟨o,ho⟩:=h.blk k hk;⟨o,hz _ ho⟩⟩
structure EvOk(U:Env)(base:Nat)(w:World)(s:SV)(r:RowOb):Prop where
 ks:r.ks=Dn
 n:s.n=(r.l.R U).length
 rows:RowsIn r.ks (r.l.R U)
 lt:∀k,s.blk r.own=ZA k->k<w.heap.size
 zb:r.own=ZB->∀p∈s.z,base<=p.1
 at':∃ins:List SV,ins.length=(r.l.R U).length/\(r.own=ZB->w.ownsRow base r.ty 3 s.v s.n (gY (r.l.R U) ins))/\RdRow w 3 s (gY (r.l.R U) ins)/\∀(i:Nat) row x,(r.l.R U)[i]? =ZA row->ins[i]? =ZA x->EiOk s.z row x
def RowOk(U:Env)(base:Nat)(w:World)(s:SV)(r:RowOb):Prop:=(r.kd=.sl->SlOk U base w s r)/\(r.kd.isHd=ZB->HdOk U base w s r)/\(r.kd=.ev->EvOk U base w s r)
def SlOk.row{U:Env}{s:SV}{r:RowOb}(h:SlOk U base w s r)(hk:r.kd=.sl):RowOk U base w s r:=⟨fun _=>h,fun hn=>(by rw[hk]at hn;cases hn),fun hn=>(by rw[hk]at hn;cases hn)⟩
def HdOk.row{U:Env}{s:SV}{r:RowOb}(h:HdOk U base w s r)(hk:r.kd.isHd=ZB):RowOk U base w s r:=⟨fun e=>(by rw[e]at hk;cases hk),fun _=>h,fun e=>(by rw[e]at hk;cases hk)⟩
def EvOk.row{U:Env}{s:SV}{r:RowOb}(h:EvOk U base w s r)(hk:r.kd=.ev):RowOk U base w s r:=⟨fun e=>(by rw[e]at hk;cases hk),fun e=>(by rw[hk]at e;cases e),fun _=>h⟩
def RowOk.cases{U:Env}{s:SV}{r:RowOb}(h:RowOk U base w s r):(r.kd=.sl/\SlOk U base w s r)\/(r.kd.isHd=ZB/\HdOk U base w s r)\/(r.kd=.ev/\EvOk U base w s r):=by
 cases hk:r.kd with
 |sl=>exact .inl ⟨rfl,h.1 hk⟩
 |map a b c=>exact .inr (.inl ⟨rfl,h.2.1 (by rw[hk];rfl)⟩)
 |it a b=>exact .inr (.inl ⟨rfl,h.2.1 (by rw[hk];rfl)⟩)
 |tab=>exact .inr (.inl ⟨rfl,h.2.1 (by rw[hk];rfl)⟩)
 |ev=>exact .inr (.inr ⟨rfl,h.2.2 hk⟩)
def RowOk.rows{U:Env}{s:SV}{r:RowOb}(h:RowOk U base w s r):RowsIn r.ks (r.l.R U):=by rcases h.cases with⟨_,h⟩|⟨_,h⟩|⟨_,h⟩<;>exact h.rows
def HdOk.blk{U:Env}{s:SV}{r:RowOb}(h:HdOk U base w s r){k:Nat}(hk:s.blk o=ZA k):∃ob,s.a=ZA ⟨k,0,ZE⟩/\base<=k/\w.heap[k]? =ZA ob/\Le U s r ob/\k<w.heap.size:=by obtain⟨g,ob,h1,h2,h3,h4⟩:=h.at';have e:=ay hk;simp only[SV.v,h1,Value.ownBlock,bo]at e;subst e;exact⟨ob,h1,h2,h3,h4,(ig.1 h3).1⟩
def HdOk.blkAt{U:Env}{s:SV}{r:RowOb}(h:HdOk U base w s r)(hg:s.a=ZA ⟨g,0,ZE⟩)(o:Bool):s.blk o=ZA g:=by unfold SV.blk;rw[ae (by rw[h.c];cases o<;>rfl)];simp[SV.v,hg,Value.ownBlock]
def qe{ty:Nat}{s:SV}{xs:List Value}(h:w.ownsRow base ty Bt s.v s.n xs):RdRow w Bt s xs:=by
 obtain⟨hl,h⟩:=h;rcases h with⟨hv,hn⟩|⟨g,Hp,cur,hv,hb,hg,hn,hm,hs,ht⟩
 .obtain⟨a,n,c,z⟩:=s;simp only[SV.v,Value.slice.injEq]at hv;obtain⟨rfl,rfl,rfl⟩:=hv;exact⟨hl,ZK _,by simp[maxLen],fun _=>⟨rfl,rfl⟩,fun a ha=>by cases ha⟩
 .obtain⟨a,n,c,z⟩:=s;simp only[SV.v,Value.slice.injEq]at hv;obtain⟨rfl,-,rfl⟩:=hv;refine⟨hl,hn,hm,fun h=>Xo,fun a ha i u hu=> ?_⟩;cases ha;have:(⟨g,0,ZE⟩:Addr).add i=⟨g,i,ZE⟩:=XV;rw[this,cell_of_row w g i cur ty (0,0) hg,<-lE];rw[<-ht]at hu;simp only at hl hu;rw[List.getElem?_take]at hu;split at hu
  .exact hu
  .cases hu
def rR{ty:Nat}{s:SV}{n:Nat}{xs:List Value}(h:w.ownsRow base ty Bt s.v n xs):∀k,s.v.ownBlock=ZA k->k<w.heap.size/\base<=k:=by
 intro k hk;rcases h.2 with⟨hv,hn⟩|⟨g,Hp,cur,hv,hb,hg,_⟩
 .rw[hv]at hk;cases hk
 .rw[hv]at hk;cases hk;refine⟨?_,hb⟩;rcases bC g w.heap.size with h1|h1
  .exact h1
  .rw[Array.getElem?_eq_none h1]at hg;cases hg
def RowOk.lt{U:Env}{s:SV}{r:RowOb}(h:RowOk U base w s r):∀k,s.blk r.own=ZA k->k<w.heap.size:=by
 intro k hk;rcases h.cases with⟨_,h⟩|⟨_,h⟩|⟨_,h⟩
 .exact h.lt k hk
 .obtain⟨_,_,_,_,_,h5⟩:=h.blk hk;exact h5
 .exact h.lt k hk
def SlOk.mk_own{U:Env}{s:SV}{r:RowOb}(h1:s.n=(r.l.R U).length)(h2:RowsIn r.ks (r.l.R U))(h3:0<r.ks.length)(h4:w.ownsRow base r.ty r.ks.length s.v s.n (flat r.ks (r.l.R U))):SlOk U base w s r:=⟨h1,h2,h3,fun k hk=>(rR h4 k (ay hk)).1,fun _=>h4,qe h4⟩
def RowOk.owned{U:Env}{s:SV}{r:RowOb}(h:RowOk U base w s r)(ho:r.own=ZB):∀k,s.v.ownBlock=ZA k->k<w.heap.size/\base<=k:=by
 intro k hk;rcases h.cases with⟨_,h⟩|⟨_,h⟩|⟨_,h⟩
 .exact rR (h.own ho) k hk
 .obtain⟨g,ob,h1,h2,h3,h4⟩:=h.at';simp only[SV.v,h1,Value.ownBlock,bo]at hk;subst hk;exact⟨(ig.1 h3).1,h2⟩
 .obtain⟨ins,_,h2,_⟩:=h.at';exact rR (h2 ho) k hk
def RowOk.mk_own{U:Env}{s:SV}{r:RowOb}(hk:r.kd=.sl)(h1:s.n=(r.l.R U).length)(h2:RowsIn r.ks (r.l.R U))(h3:0<r.ks.length)(h4:w.ownsRow base r.ty r.ks.length s.v s.n (flat r.ks (r.l.R U))):RowOk U base w s r:=(SlOk.mk_own h1 h2 h3 h4).row hk
def NewZ(w w':World)(svs:List SV)(u:SV):Prop:=∀p∈u.z,w'.heap[p.1]? =ZA p.2/\Cg p.2=ZB/\w.heap.size<=p.1/\∀u'∈svs,u'.v.ownBlock≠ZA p.1
def NewZ.nil{svs:List SV}{u:SV}(h:u.z=[]):NewZ w w' svs u:=fun p hp=>by rw[h]at hp;cases hp
structure RetOk(res:List Sh)(tup:Bool)(w w':World)(X:List Dt)(v:Value):Prop where
 ext:Ext w w'
 rng:gJ (res.flatMap (·.cks)) X
 svs:∃svs:List SV,svs.length=((res.flatMap (·.cks)).filter CK.isSl).length/\
     (∀(U:Env) v0 nid (j:J),eqs U X v0 0 (res.flatMap (·.cks))->(∀(i:Nat) u,svs[i]? =ZA u->j.s (nid+i)=ZA u)->(gi res tup v0 nid).den U j=ZA v)/\
     (∀(U:Env) v0,eqs U X v0 0 (res.flatMap (·.cks))->∀(i:Nat) u r,svs[i]? =ZA u->(bE v0 0 (res.flatMap (·.cks)))[i]? =ZA r->RowOk U w.heap.size w' u r)/\
     (∀(i i':Nat) u u' k,svs[i]? =ZA u->svs[i']? =ZA u'->u.v.ownBlock=ZA k->u'.v.ownBlock=ZA k->i=i')/\∀u∈svs,NewZ w w' svs u
def WD(P:Program)(sp:Spec)(s:Sm)(ks:List CE)(ty:Nat):Prop:=
 ∀L,sp.pre s.key [.l L]->∃L',sp.F s.key [.l L]=[.l L']/\RowsIn ks L'/\∀base sv w,OwnRow w base ty ks sv L->
   (callFunc s.f #[sv.v]).run P w=.ok (.enter s.f #[sv.v]) w/\Calls P s.f #[sv.v] w fun e w'=>e=.returned (.tuple #[])/\OwnRow w' base ty ks sv L'/\w.grownBy w' sv.v.ownBlock
structure SmOk(P:Program)(sp:Spec)(s:Sm):Prop where
 calls:s.inp=ZE->∀xs vals w,nB w s.args xs vals->sp.pre s.key xs->sp.hw w->
   (∃v w',(callFunc s.f vals.toArray).run P w=.ok (.value v) w'/\RetOk s.res s.tup w w' (sp.F s.key xs) v)\/((callFunc s.f vals.toArray).run P w=.ok (.enter s.f vals.toArray) w/\Calls P s.f vals.toArray w fun e w'=>∃v,e=.returned v/\RetOk s.res s.tup w w' (sp.F s.key xs) v)
 inpl:∀ks ty,s.inp=ZA (ks,ty)->WD P sp s ks ty
 rng:∀xs,QJ s.args xs->sp.pre s.key xs->∀(U:Env) v0,eqs U (sp.F s.key xs) v0 0 s.ks->(∀(n:Nat) k,s.ks[n]? =ZA (.int k)->Ae k (U.i (v0+n))=ZB)/\(∀(n:Nat) ks ty,s.ks[n]? =ZA (.sl ks ty)->RowsIn ks (U.l (v0+n)))
def Zin(j:J)(s:SV):Prop:=∀p∈s.z,j.g.z p.1=ZA p.2/\Cg p.2=ZB
def Zin.nil{j:J}{s:SV}(h:s.z=[]):Zin j s:=fun p hp=>by rw[h]at hp;cases hp
def PtIs(j:J)(ks:List CE)(row:List Int):Option Addr->Prop
 |none=>row.getD 0 0=0
 |some a=>row.getD 0 0=1/\(∃b o,a=⟨b,o,ZE⟩)/\∃vs ty,j.g.z a.block=ZA (.cells vs ty (0,0))/\∀(c:Nat) v,(Bm ks row)[c+1]? =ZA v->vs[a.off+c]? =ZA v
def TbAt(U:Env)(j:J)(w:World)(s:SV)(r:RowOb):Prop:=
 ∃(g:Nat) (ps:List (Option Addr)) (ty:Nat),s.a=ZA ⟨g,0,ZE⟩/\w.heap[g]? =ZA (.cells (ps.map Value.pointer).toArray ty (0,0))/\ps.length=(r.l.R U).length/\
  ∀(i:Nat) row p,(r.l.R U)[i]? =ZA row->ps[i]? =ZA p->PtIs j r.ks row p
def PtIs.mono{j j':J}{ks:List CE}{row:List Int}{p:Option Addr}(h:PtIs j ks row p)(hz:∀k o,Cg o=ZB->j.g.z k=ZA o->j'.g.z k=ZA o):PtIs j' ks row p:=by
 cases p with
 |none=>exact h
 |some a=>obtain⟨h1,h2,vs,ty,h3,h4⟩:=h;exact⟨h1,h2,vs,ty,hz _ _ rfl h3,h4⟩
def TbAt.mono{U U':Env}{j j':J}{s:SV}{r r':RowOb}(h:TbAt U j w s r)(hl:r'.l.R U'=r.l.R U)(hk:r'.ks=r.ks)(hz:∀k o,Cg o=ZB->j.g.z k=ZA o->j'.g.z k=ZA o)(hw:∀g,s.a=ZA ⟨g,0,ZE⟩->w'.heap[g]? =w.heap[g]?):TbAt U' j' w' s r':=by obtain⟨g,ps,ty,h1,h2,h3,h4⟩:=h;refine⟨g,ps,ty,h1,by rw[hw g h1];exact h2,by rw[hl];exact h3,fun i row p hr hp=> ?_⟩;rw[hk];exact(h4 i row p (by rw[<-hl];exact hr) hp).mono hz
def RrOk(U:Env)(base:Nat)(j:J)(w:World)(rw:Nat->Option RowOb)(rr:List Nat):Prop:=∀id∈rr,∀r,rw id=ZA r->∃s,j.s id=ZA s/\RowOk U base w s r/\Zin j s/\(∀p∈s.z,w.heap[p.1]? =ZA p.2)/\(r.kd=.tab->TbAt U j w s r/\∀k o,j.g.z k=ZA o->w.heap[k]? =ZA o)
def EiOk.told{z:List (Nat×Obj)}{row:List Int}{x:SV}(h:EiOk z row x)(hz:∀p∈z,w.heap[p.1]? =ZA p.2/\Cg p.2=ZB):EvIn w row x:=⟨h.n,h.most,h.rest,h.rd w (fun p hp=>(hz p hp).1),fun k hk=>let⟨o,ho⟩:=h.blk k hk;⟨o,hz _ ho⟩⟩
def EvOk.told{U:Env}{j:J}{s:SV}{r:RowOb}(h:EvOk U base w s r)(hz:Zin j s/\∀p∈s.z,w.heap[p.1]? =ZA p.2):∃ins:List SV,ins.length=(r.l.R U).length/\RdRow w 3 s (gY (r.l.R U) ins)/\∀(i:Nat) row x,(r.l.R U)[i]? =ZA row->ins[i]? =ZA x->EvIn w row x:=by obtain⟨ins,h1,_,h2,h3⟩:=h.at';exact⟨ins,h1,h2,fun i row x hr hx=>(h3 i row x hr hx).told (fun p hp=>⟨hz.2 p hp,(hz.1 p hp).2⟩)⟩
def RdRow.nil{n:Nat}:RdRow w n ⟨ZE,0,0,[]⟩ []:=⟨by simp,ZK _,by simp[maxLen],fun _=>⟨rfl,rfl⟩,fun a ha=>(by cases ha)⟩
def TRow.nil{ks:List CE}:TRow w ks ⟨ZE,0,0,[]⟩ []:=by
 unfold TRow;split
 .exact⟨[],rfl,.nil,fun i row x h=>by simp at h⟩
 .exact .nil
def RrOk.sl{U:Env}{j:J}{vw:Vw}{rr:List Nat}(h:RrOk U base j w vw.rw rr)(id:Nat)(IA:id∈rr)(r:RowOb)(hr:vw.sw id=ZA r):∃s,j.s id=ZA s/\SlOk U base w s r:=by obtain⟨h1,h2⟩:=Vw.sw_some hr;obtain⟨s,h3,h4,_⟩:=h id IA r h1;exact⟨s,h3,h4.1 h2⟩
def jM(cs:List C)(o:Nat):Bool:=(cs.getD o .undef).solid
def Nd(hw:World->Prop)(U:Env)(j:J)(w:World)(fb:Nat->Option (List C)):Prop:=hw w/\
 ∀b cs,fb b=ZA cs->∃k vs,j.f b=ZA k/\k<w.heap.size/\Af U j cs=ZA vs/\∀o v,vs[o]? =ZA v->jM cs o=ZB->w.cell? ⟨k,o,ZE⟩=ZA v
def J.putS(j:J)(id:Nat)(s:SV):J:={j with s:=fun b=>if b=id then ZA s else j.s b}
def Gh.setz(g:Gh)(l:Nat)(x:Option Obj):Gh:=⟨g.y,fun k=>if k=l then x else g.z k⟩
def J.setz(j:J)(l:Nat)(x:Option Obj):J:={j with g:=j.g.setz l x}
def J.addz(j:J):List (Nat×Obj)->J
 |[]=>j
 |p::_=>j.setz p.1 (ZA p.2)
def Gh.setzs(g:Gh)(l:List (Nat×Obj)):Gh:=⟨g.y,fun k=>match l.find? (fun p=>ZJ p.1 k)with|some p=>ZA p.2|none=>g.z k⟩
def J.addzs(j:J):List (Nat×Obj)->J
 |[]=>j
 |l=>{j with g:=j.g.setzs l}
def aru(j:J)(l:List (Nat×Obj)):(j.addzs l).s=j.s:=by cases l<;>rfl
def ajd(j:J)(l:List (Nat×Obj)):(j.addzs l).s=j.s/\(j.addzs l).b=j.b/\(j.addzs l).f=j.f/\(j.addzs l).g.y=j.g.y:=by cases l<;>exact⟨rfl,rfl,rfl,rfl⟩
def zL(j:J)(l:List (Nat×Obj))(k:Nat):(j.addzs l).g.z k=match l.find? (fun p=>ZJ p.1 k)with|some p=>ZA p.2|none=>j.g.z k:=by cases l<;>rfl
def qX{j:J}{k:Nat}{o:Obj}(h:(j.addzs l).g.z k=ZA o):(k,o)∈l\/((∀p∈l,p.1≠k)/\j.g.z k=ZA o):=by
 rw[zL]at h;split at h
 next p hp=>cases h;have h1:=List.mem_of_find?_eq_some hp;have h2:p.1=k:=Ak (by simpa using List.find?_some hp);rw[<-h2];exact .inl h1
 next hn=>refine .inr ⟨fun p hp e=> ?_,h⟩;have:=List.find?_eq_none.1 hn p hp;rw[e]at this;simp at this
def ja{j:J}{k:Nat}(h:∀p∈l,p.1≠k):(j.addzs l).g.z k=j.g.z k:=by
 rw[zL];split
 next p hp=>exact ai (Ak (n:=p.1) (m:=k) (by simpa using List.find?_some hp)) (h p (List.mem_of_find?_eq_some hp))
 .rfl
def ajc{j:J}(hf:∀p∈l,∀q∈l,p.1=q.1->p.2=q.2){p:Nat×Obj}(hp:p∈l):(j.addzs l).g.z p.1=ZA p.2:=by
 rw[zL];split
 next q hq=>rw[hf q (List.mem_of_find?_eq_some hq) p hp (Ak (n:=q.1) (m:=p.1) (by simpa using List.find?_some hq))]
 next hn=>have:=List.find?_eq_none.1 hn p hp;simp at this
def J.putL(j:J)(nid:Nat)(l:List SV):J:={j with s:=fun b=>if nid<=b then(match l[b-nid]? with|some u=>ZA u|none=>j.s b)else j.s b}
def Nc(U:Env)(base nid:Nat)(eff:Eff)(j:J)(w:World)(j':J)(w':World):Prop:=
 match eff.al with
 |some (cs,ty)=>∃vs,Af U j cs=ZA vs/\w'=w.alloc (.cells vs.toArray ty)/\j'={j with b:=fun b=>if b=nid then ZA w.heap.size else j.b b}
 |none=>match eff.re with
   |.none=>j'=j/\∃w1,Ext w w1/\sN U j eff.wr w1 w'
   |.set id r=>j'=j/\∃s,j.s id=ZA s/\w.grownBy w' s.v.ownBlock/\RowOk U base w' s r/\r.kd≠.tab
   | .mk rs=>Ext w w'/\∃svs:List SV,svs.length=rs.length/\(∀(i:Nat) u r,svs[i]? =ZA u->rs[i]? =ZA r->RowOk U w.heap.size w' u r/\r.own=ZB/\(r.kd=.tab->∀jj,TbAt U jj w' u r))/\
    (∀(i i':Nat) u u' k,svs[i]? =ZA u->svs[i']? =ZA u'->u.v.ownBlock=ZA k->u'.v.ownBlock=ZA k->i=i')/\(∀u∈svs,NewZ w w' svs u)/\j'=(j.putL nid svs).addzs (svs.flatMap (·.z))
   |.app old r=>∃s s',j.s old=ZA s/\w.grownBy w' s.v.ownBlock/\RowOk U base w' s' r/\(s'.v.ownBlock=s.v.ownBlock\/s'.v.ownBlock=ZA w.heap.size)/\Zin j s'/\j'=j.putS nid s'/\r.kd≠.tab
   |.view old q r=>w'=w/\∃s s',j.s old=ZA s/\RowOk U base w s q/\RowOk U base w s' r/\(∀k,s'.blk ZC=ZA k->s.blk ZC=ZA k)/\Zin j s'/\j'=j.putS nid s'/\q.kd≠.tab/\r.kd≠.tab
   |.peek r=>w'=w/\∃s',RowOk U base w s' r/\(∀k,s'.blk ZC=ZA k->∃o,j.g.z k=ZA o/\Cg o=ZB)/\s'.z=[]/\j'=j.putS nid s'/\r.kd≠.tab
   |.frz old q r=>Ext w w'/\∃s s',j.s old=ZA s/\RowOk U base w s q/\RowOk U base w' s' r/\(∀k,s'.v.ownBlock=ZA k->w.heap.size<=k)/\s'.z.length<=1/\(∀p∈s'.z,w.heap[p.1]? =ZA p.2/\Cg p.2=ZB/\s.v.ownBlock=ZA p.1)/\j'=(j.putS nid s').addz s'.z/\q.kd≠.tab/\r.kd≠.tab
   |.tset old q tab r=>∃s st k o,j.s old=ZA s/\j.s tab=ZA st/\RowOk U base w s q/\RowOk U base w' st r/\s.v.ownBlock=ZA k/\w.heap[k]? =ZA o/\Cg o=ZB/\w.grownBy w' st.v.ownBlock/\j'=j.addz [(k,o)]/\TbAt U j' w' st r/\q.kd≠.tab
def OpOk(P:Program)(hw:World->Prop)(U:Env)(base:Nat)(vw:Vw)(o:Oper)(eff:Eff):Prop:=
 ∀(j:J) (a:Act) (w:World),base<=w.heap.size->(∀x∈o.op.operands.toList,∀v,vw.ev x=ZA v->v.den U j=ZA (a.eval x))->E5 U j w vw.ld eff.rd->LI j w eff.wr->RrOk U base j w vw.rw eff.rr->Nd hw U j w vw.fb->
  ∀(K:Act->World->Prop) (Q:Exit->Act->World->Prop),(∀v j' w',eff.val.den U j'=ZA v->Nc U base vw.nid eff j w j' w'->K (a.put o.dst v) w')->o.wp P a w K Q
def dH{P:Program}{o:Oper}{a:Act}{v:Value}{K:Act->World->Prop}{Q:Exit->Act->World->Prop}(h:(execOp a.eval o).run P w=.ok (.value v) w')(hk:K (a.put o.dst v) w'):o.wp P a w K Q:=by unfold Oper.wp;rw[h];exact hk
def uW{P:Program}{o:Oper}{a:Act}{K:Act->World->Prop}{Q:Exit->Act->World->Prop}(h:(execOp a.eval o).run P w=.ok .skip w')(hk:K (a.put o.dst undef) w'):o.wp P a w K Q:=by unfold Oper.wp;rw[h];exact hk
section
variable {P:Program}{U:Env}{base:Nat}{vw:Vw}{ld:Nat->Nat->Option C}{o:Oper}
def OpOk.pure{hw:World->Prop}{v:V}{rd:List (Nat×Nat)}{rr:List Nat} (h:∀(j:J) (a:Act) (w:World),base<=w.heap.size->(∀x∈o.op.operands.toList,∀v,vw.ev x=ZA v->v.den U j=ZA (a.eval x))->E5 U j w vw.ld rd->RrOk U base j w vw.rw rr->Nd hw U j w vw.fb->
  ∃u,v.den U j=ZA u/\(execOp a.eval o).run P w=.ok (.value u) w):OpOk P hw U base vw o {val:=v,rd:=rd,rr:=rr}:=by
 intro j a w hb Au By _ BQ Ef K Q hK;obtain⟨u,hu,hr⟩:=h j a w hb Au By BQ Ef;exact dH hr (hK u j w hu ⟨rfl,w,Ext.refl w,rfl⟩)
def eu{j:J}{b k:Nat}(hj:j.b b=ZA k):∀(n o:Nat) (cs:List C),jX ld b o n=ZA cs->∀(w:World),E5 U j w ld (eb b o n)->∀(a:Addr) (i:Nat) (Lr:Array Value),(∀m,a.add (i+m)=⟨k,o+m,ZE⟩)->
  ∃vs,Af U j cs=ZA vs/\(loadCellsFrom a i n Lr).run P w=.ok (Lr++vs.toArray) w
 |0,o,cs,h,w,By,a,i,Lr,ha=>by cases h;exact⟨[],rfl,by simp[loadCellsFrom]⟩
 |n+1,o,cs,h,w,By,a,i,Lr,ha=>by
   simp only[jX]at h;cases hc:ld b o with
   |none=>rw[hc]at h;cases h
   |some c=>
     cases hl:jX ld b (o+1) n with
     |none=>rw[hc,hl]at h;cases h
     |some l=>rw[hc,hl]at h;cases h;obtain⟨k',v,B2,hv,BB⟩:=By (b,o) (by simp[eb]) c hc;simp only at B2 BB;rw[hj]at B2;cases B2;obtain⟨vs,h1,h2⟩:=eu hj n (o+1) l hl w (fun p hp=>By p (by simp[eb];exact .inr hp)) a (i+1) (Lr.push v) (fun m=>by rw[ZU,Nat.add_comm 1 m,<-ZU,ZU,ha (m+1)];congr 1;omega);refine⟨v::vs,by simp[Af,hv,h1],?_⟩;have JI:=ha 0;simp only[ZR]at JI;simp only[loadCellsFrom,JI,ZI,load,Sem.run,BB,Result.andThen_ok,h2];simp
def ag6{cx:Cx}(hT:∀t i,(t,i)∈cx.ty->TIok P t i){cs:List C}{v:V}(h:PG cx ft cs off=ZA v){j:J}(EN:Af U j cs=ZA vs)(w:World):
  ∃u,v.den U j=ZA u/\(part ft vs.toArray off).run P w=.ok u w:=by
 unfold PG at h;split at h
 .rename_i i hi;have ht:=hT _ _ (af hi);split at h
  .rename_i Bu;split at h
   .rename_i AZ;cases h;have h1:=mV (ku EN off) i.size;refine⟨.agg ((vs.drop off).take i.size).toArray,by simp only[V.den,h1,YR],?_⟩;have h2:vs.toArray.extract off (off+i.size)=((vs.drop off).take i.size).toArray:=by
     simp[List.extract_eq_take_drop]
    simp only[part,ZI,ht.agg,Bu,Result.andThen_ok,bm,ht.size,h2,Sem.run_pure]
   .exact Xo
  next Bu=>rw[Ay]at h;obtain⟨c,hc,rfl⟩:=h;obtain⟨u,hu,hd⟩:=dP EN off c hc;refine⟨u,hd,?_⟩;have h3:vs.toArray[off]? =ZA u:=X2;simp only[part,ZI,ht.agg,Bu,Result.andThen_ok,h3];simp
 .exact Xo
end
section
variable {P:Program}{sp:Spec}{U:Env}{G:Env->E->Prop}{I:Nat->List Dt->Prop}{base:Nat}{cx:Cx}{vw:Vw}{o:Oper}{k:Eff->Kw->Tr}
def Sound(P:Program)(sp:Spec)(U:Env)(G:Env->E->Prop)(I:Nat->List Dt->Prop)(base:Nat)(cx:Cx)(vw:Vw)(o:Oper)(k:Eff->Kw->Tr)(kw:Kw):Prop:=∃eff An,(k eff An).holds sp G U I/\Good sp cx.sm U An/\KwGe An kw/\OpOk P sp.hw U base vw o eff
def Sound.lv{kw An:Kw}(h:Sound P sp U G I base cx vw o k An)(hl:KwGe An kw):Sound P sp U G I base cx vw o k kw:=by obtain⟨eff,Cc,h1,h2,h3,h4⟩:=h;exact⟨eff,Cc,h1,h2,h3.trans hl,h4⟩
def aax{kw:Kw}(Ad:o.op=.move x\/o.op=.assign x){v:V}(hv:vw.ev x=ZA v)(h:(k {val:=v} kw).holds sp G U I)(hg:Good sp cx.sm U kw):Sound P sp U G I base cx vw o k kw:=by
 refine⟨_,kw,h,hg,.refl _,OpOk.pure fun j a w _ Au _ _ _=>⟨a.eval x,?_,?_⟩⟩
 .rcases Ad with Ad|Ad<;>exact Au x Or v hv
 .rcases Ad with Ad|Ad<;>simp[execOp,Ad]
def afm(hT:∀t i,(t,i)∈cx.ty->TIok P t i){kw:Kw}(Ad:o.op=.alloc t){i:TI}(hi:ap t cx.ty=ZA i)(h:(k {val:=.one (.ptr vw.nid 0),al:=ZA (i.zero,t)} kw).holds sp G U I)(hg:Good sp cx.sm U kw):
  Sound P sp U G I base cx vw o k kw:=by
 refine⟨_,kw,h,hg,.refl _,fun j a w _ Au By Ca _ _ K Q hK=> ?_⟩;obtain⟨z,hz,hd⟩:=(hT _ _ (af hi)).zero;refine dH (w':=w.alloc (.cells z.cells t)) (v:=.pointer (ZA ⟨w.heap.size,0,ZE⟩)) ?_ (hK _ {j with b:=fun b=>if b=vw.nid then ZA w.heap.size else j.b b} _ ?_ ?_)
 .exact XJ
 .simp[V.den,C.den]
 .exact⟨z.cells.toList,hd U j,by simp,rfl⟩
def ao7{kw:Kw}(Ad:o.op=.box t x){v:V}(hv:vw.ev x=ZA v)(hf:v.flat=ZB)(h:(k {val:=.one (.ptr vw.nid 0),al:=ZA (v.cells,t)} kw).holds sp G U I)(hg:Good sp cx.sm U kw):
  Sound P sp U G I base cx vw o k kw:=by
 refine⟨_,kw,h,hg,.refl _,fun j a w _ Au By Ca _ _ K Q hK=> ?_⟩;have hd:=V.cells_ok (Au x Or v hv) hf;refine dH (w':=w.alloc (.cells (a.eval x).cells t)) (v:=.pointer (ZA ⟨w.heap.size,0,ZE⟩)) ?_ (hK _ {j with b:=fun b=>if b=vw.nid then ZA w.heap.size else j.b b} _ ?_ ?_)
 .simp[execOp,Ad,Instr.box,ZI,newVar,newRow,newObj,Sem.run]
 .simp[V.den,C.den]
 .exact⟨_,hd,by simp,rfl⟩
def mH{j:J}{v:Value}(h:(V.one (.ptr b off)).den U j=ZA v):∃kk,j.b b=ZA kk/\v=.pointer (ZA ⟨kk,off,ZE⟩):=by simp only[V.den,C.den,Ay]at h;obtain⟨kk,hk,rfl⟩:=h;exact⟨kk,hk,rfl⟩
def bB(kk off m:Nat):(⟨kk,off,ZE⟩:Addr).add m=⟨kk,off+m,ZE⟩:=by
 unfold Addr.add;split
 next h=>subst h;rfl
 .rfl
def vB(hT:∀t i,(t,i)∈cx.ty->TIok P t i){kw:Kw}(Ad:o.op=.load t x)(hx:vw.ev x=ZA (.one (.ptr b off))){i:TI}(hi:ap t cx.ty=ZA i)(Bu:i.agg=ZB){cs:List C}(CS:jX vw.ld b off i.size=ZA cs)(h:(k {val:=.agg cs,rd:=eb b off i.size} kw).holds sp G U I)(hg:Good sp cx.sm U kw):Sound P sp U G I base cx vw o k kw:=by
 refine⟨_,kw,h,hg,.refl _,OpOk.pure fun j a w _ Au By _ _=> ?_⟩;have ht:=hT _ _ (af hi);obtain⟨kk,hk,he⟩:=mH (Au x Or _ hx);obtain⟨vs,h1,h2⟩:=eu (P:=P) hk i.size off cs CS w By ⟨kk,off,ZE⟩ 0 #[] (fun m=>by rw[bB];simp);refine⟨.agg vs.toArray,by simp only[V.den,h1,YR],?_⟩;simp[execOp,Ad,he,Instr.loadAt,Instr.sureAddr,ZI,loadVar,ht.agg,Bu,ht.size,loadCells,h2]
def vC(hT:∀t i,(t,i)∈cx.ty->TIok P t i){kw:Kw}(Ad:o.op=.load t x)(hx:vw.ev x=ZA (.one (.ptr b off))){i:TI}(hi:ap t cx.ty=ZA i)(Bu:¬i.agg=ZB){c:C}(hc:vw.ld b off=ZA c)(h:(k {val:=.one c,rd:=[(b,off)]} kw).holds sp G U I)(hg:Good sp cx.sm U kw):Sound P sp U G I base cx vw o k kw:=by
 refine⟨_,kw,h,hg,.refl _,OpOk.pure fun j a w _ Au By _ _=> ?_⟩;have ht:=hT _ _ (af hi);obtain⟨kk,hk,he⟩:=mH (Au x Or _ hx);obtain⟨k',v,B2,hv,BB⟩:=By (b,off) (by simp) c hc;simp only at B2 BB;rw[hk]at B2;cases B2;have DB:i.agg=ZC:=Yy;refine⟨v,hv,?_⟩;simp[execOp,Ad,he,Instr.loadAt,Instr.sureAddr,ZI,loadVar,ht.agg,DB,load,Sem.run,BB]
def dK{j:J}{b kk:Nat}(hj:j.b b=ZA kk)(a:Addr):∀(cs:List C) (off i:Nat) (vs:List Value) (w:World),(∀m,a.add (i+m)=⟨kk,off+m,ZE⟩)->Af U j cs=ZA vs->cs.all C.solid=ZB->LI j w (eN b off cs)->
  ∃w',sN U j (eN b off cs) w w'/\(storeCells a vs i).run P w=.ok () w'
 |[],off,i,vs,w,ha,hd,hs,hw=>by cases hd;exact⟨w,rfl,by simp[storeCells]⟩
 |c::cs,off,i,vs,w,ha,hd,hs,hw=>by
   simp only[Af]at hd;cases hc:c.den U j with
   |none=>rw[hc]at hd;cases hd
   |some v=>
     cases hl:Af U j cs with
     |none=>rw[hc,hl]at hd;cases hd
     |some l=>
       rw[hc,hl]at hd;cases hd;simp only[YX,ne]at hs;obtain⟨k',u,B2,hu,Km⟩:=hw (b,off,c) (by simp[eN]);simp only at B2 hu Km;rw[hj]at B2;cases B2;have Qb:LI j (w.setCell ⟨kk,off,ZE⟩ v) (eN b (off+1) cs):=by
        intro p hp;obtain⟨k2,u2,D3,RP,hf2⟩:=hw p (by simp[eN];exact .inr hp);by_cases he:(⟨k2,p.2.1,ZE⟩:Addr)=⟨kk,off,ZE⟩
        .refine⟨k2,v,D3,?_,?_⟩
         .rw[he];exact World.cell?_setCell_same _ _ _ (by rw[<-he];exact RP)
         .rw[World.frozen?_setCell];exact hf2
        .refine⟨k2,u2,D3,?_,?_⟩
         .rw[World.cell?_setCell_other _ _ _ _ (fun e=>he e.symm)];exact RP
         .rw[World.frozen?_setCell];exact hf2
       obtain⟨w',h1,h2⟩:=dK hj a cs (off+1) (i+1) l (w.setCell ⟨kk,off,ZE⟩ v) (fun m=>by rw[ZU,Nat.add_comm 1 m,ha (m+1)];congr 1;omega) hl hs.2 Qb;refine⟨w',⟨kk,v,hj,hc,h1⟩,?_⟩;have JI:=ha 0;simp only[ZR]at JI;simp only[storeCells,JI,ZI,run_store P w _ v _ (C.solid_ok hc hs.1),hu,Km,Result.andThen_ok,Bool.false_eq_true,eA];exact h2
def ae8(hT:∀t i,(t,i)∈cx.ty->TIok P t i){kw:Kw}(Ad:o.op=.store t x y)(hx:vw.ev x=ZA (.one (.ptr b off))){v:V}(hy:vw.ev y=ZA v){i:TI}(hi:ap t cx.ty=ZA i)(hf:v.flat=ZB)(hn:ZJ v.cells.length i.size=ZB)(hs:v.cells.all C.solid=ZB)(h:(k {val:=.one .undef,wr:=eN b off v.cells} kw).holds sp G U I)(hg:Good sp cx.sm U kw):Sound P sp U G I base cx vw o k kw:=by
 refine⟨_,kw,h,hg,.refl _,fun j a w _ Au By Ca _ _ K Q hK=> ?_⟩;have ht:=hT _ _ (af hi);obtain⟨kk,hk,he⟩:=mH (Au x Or _ hx);have hd:=V.cells_ok (Au y Or v hy) hf;obtain⟨w',h1,h2⟩:=dK (P:=P) hk ⟨kk,off,ZE⟩ v.cells off 0 _ w (fun m=>by rw[bB];simp) hd hs Ca;have BR:(a.eval y).cells.size=i.size:=by have:=aV hd;rw[Array.length_toList,Ak hn]at this;exact this
 refine uW (w':=w') ?_ (hK _ j w' rfl ⟨rfl,w,Ext.refl w,h1⟩);simp[execOp,Ad,he,Instr.storeAt,Instr.sureAddr,ZI,storeVar,ht.size,BR,h2]
def ag0{j:J}{c:C}{v:Value}(hc:(∃b off,c=.ptr b off)\/(∃b off,c=.fp b off)\/(∃id Bt e off,c=.ep id Bt e off))(h:(V.one c).den U j=ZA v):∃a,v=.pointer (ZA a):=by
 rcases hc with⟨b,off,rfl⟩|⟨b,off,rfl⟩|⟨id,Bt,e,off,rfl⟩
 .simp only[V.den,C.den,Ay]at h;obtain⟨kk,_,rfl⟩:=h;exact⟨_,rfl⟩
 .simp only[V.den,C.den,Ay]at h;obtain⟨kk,_,rfl⟩:=h;exact⟨_,rfl⟩
 .simp only[V.den,C.den,de,SV.elem,Ay]at h;obtain⟨s,_,a,_,rfl⟩:=h;exact⟨_,rfl⟩
def gN{kw:Kw}(Ad:o.op=.nilCheck x){c:C}(hx:vw.ev x=ZA (.one c))(hc:((∃b off,c=.ptr b off)\/(∃b off,c=.fp b off)\/(∃id Bt e off,c=.ep id Bt e off))\/∃g,c=.fn g)(h:(k {val:=.one c} kw).holds sp G U I)(hg:Good sp cx.sm U kw):Sound P sp U G I base cx vw o k kw:=by
 refine⟨_,kw,h,hg,.refl _,OpOk.pure fun j a w _ Au _ _ _=>⟨a.eval x,Au x Or _ hx,?_⟩⟩;have hd:=Au x Or _ hx;rcases hc with hc|⟨g,rfl⟩
 .obtain⟨a',he⟩:=ag0 hc hd;simp[execOp,Ad,he]
 .have he:a.eval x=.func (.func g) #[] #[]:=by
   exact(ZN hd).symm
  simp[execOp,Ad,he]
def tE{kw:Kw}(Ad:o.op=.nilCheck x){fs ps:List (Option (Bool×Nat×Nat))}(hx:vw.ev x=ZA (.one (.clo g fs ps)))(h:(k {val:=.one (.clo g fs ps)} kw).holds sp G U I)(hg:Good sp cx.sm U kw):Sound P sp U G I base cx vw o k kw:=by refine⟨_,kw,h,hg,.refl _,OpOk.pure fun j a w _ Au _ _ _=>⟨a.eval x,Au x Or _ hx,?_⟩⟩;have hd:=Au x Or _ hx;obtain⟨y,z,_,_,he⟩:=gC (show E8 g (fg j fs) (fg j ps)=ZA (a.eval x)from hd);simp[execOp,Ad,he]
def zG{ev:Operand->Option V}{j:J}{a:Act}:∀{l:List Operand} {cs:List (Option (Bool×Nat×Nat))},HC ev l=ZA cs->(∀x∈l,∀v,ev x=ZA v->v.den U j=ZA (a.eval x))->fg j cs=ZA (l.map a.eval)
 |[],cs,h,_=>by cases h;rfl
 |x::l,cs,h,Au=>by
   have tail:=fun {ds} (hd:HC ev l=ZA ds)=>zG (j:=j) (a:=a) hd (fun y hy=>Au y (cR _ hy));simp only[HC]at h;split at h
   next b o ds hx hl=>cases h;have h1:=Au x bW _ hx;simp only[V.den,C.den]at h1;simp only[fg,Es,List.map_cons,h1,tail hl]
   next b o ds hx hl=>cases h;have h1:=Au x bW _ hx;simp only[V.den,C.den]at h1;simp only[fg,Es,List.map_cons,h1,tail hl]
   next ds hx hl=>cases h;have h1:=Au x bW _ hx;simp only[V.den,C.den]at h1;simp only[fg,Es,List.map_cons,h1,tail hl]
   .exact Xo
def vA{fs ps:Array Operand}{kw:Kw}(Ad:o.op=.makeFunc (.func g) fs ps){x y:List (Option (Bool×Nat×Nat))}(hx:HC vw.ev fs.toList=ZA x)(hy:HC vw.ev ps.toList=ZA y)(h:(k {val:=.one (.clo g x y)} kw).holds sp G U I)(hg:Good sp cx.sm U kw):Sound P sp U G I base cx vw o k kw:=by
 refine⟨_,kw,h,hg,.refl _,OpOk.pure fun j a w _ Au _ _ _=> ?_⟩;have h1:=zG (U:=U) (j:=j) (a:=a) hx (fun z hz=>Au z (by simp[Ad,Op.operands];exact .inl (by simpa using hz)));have h2:=zG (U:=U) (j:=j) (a:=a) hy (fun z hz=>Au z (by simp[Ad,Op.operands];exact .inr (by simpa using hz)));refine⟨.func (.func g) (fs.map a.eval) (ps.map a.eval),?_,?_⟩
 .simp only[V.den,C.den,h1,h2,E8];have e:∀(q:Array Operand),(q.toList.map a.eval).toArray=q.map a.eval:=fun q=>by rw[<-Array.toList_map,Array.toArray_toList]
  rw[e,e]
 .simp[execOp,Ad,Instr.makeFunc,ZI]
def cF{j:J}{e:E}{v:Value}(h:(V.one (.int kd e)).den U j=ZA v):v=.int kd (e.I U):=by exact(ZN h).symm
def kO{j:J}{e:E}{v:Value}(h:(V.one (.bool e)).den U j=ZA v):v=.bool (e.B U):=by exact(ZN h).symm
def WN{op:UnOp}{kw:Kw}(Ad:o.op=.unOp op t x){v:V}(hv:vw.ev x=ZA v)
  (h:(match(generalizing:=false) op,v with
   |.not,.one (.bool e)=>k {val:=.one (.bool (eD e))} kw
   |.neg,.one (.int kd e)=>k {val:=.one (.int kd (kh .sub kd (.p 0) e))} kw
   |.xor,.one (.int kd e)=>k {val:=.one (.int kd (kh .xor kd (.p (if kd.signed then -1 else kd.max)) e))} kw
   |_,_=>.stuck 10).holds sp G U I) (hg:Good sp cx.sm U kw):Sound P sp U G I base cx vw o k kw:=by
 split at h
 next e=>refine⟨_,kw,h,hg,.refl _,OpOk.pure fun j a w _ Au _ _ _=>⟨.bool (!e.B U),by simp[V.den,C.den,dn],?_⟩⟩;rw[show execOp a.eval o=_ from by simp only[execOp,Ad];rfl];simp[kO (Au x Or _ hv),Op.unary,ZI]
 next kd e=>refine⟨_,kw,h,hg,.refl _,OpOk.pure fun j a w _ Au _ _ _=>⟨.int kd (kd.wrap (0-e.I U)),by simp[V.den,C.den,ut,Ac,E.I],?_⟩⟩;simp[execOp,Ad,cF (Au x Or _ hv),Op.unary,Op.intArith,ZI]
 next kd e=>refine⟨_,kw,h,hg,.refl _,OpOk.pure fun j a w _ Au _ _ _=>⟨.int kd (bits .xor kd (if kd.signed then -1 else kd.max) (e.I U)),by simp[V.den,C.den,ut,Ac,E.I],?_⟩⟩;simp[execOp,Ad,cF (Au x Or _ hv),Op.unary,intBits_xor,ZI]
 .exact Xo
def pt(h:Ae kd z=ZB):kd.wrap z=z:=by rw[bF]at h;cases kd<;>simp only[IntKind.min,IntKind.max,IntKind.wrap,YW,YT]at * <;>simp at * <;>(try split)<;>omega
def akb(hT:∀t i,(t,i)∈cx.ty->TIok P t i){d:Nat}{kw:Kw}(Ad:o.op=.convert s d x){k0:IntKind}{e:E}(hx:vw.ev x=ZA (.one (.int k0 e))){i is:TI}(hi:ap d cx.ty=ZA i)(his:ap s cx.ty=ZA is)(hk:i.ik=ZA kd)(h:(k {val:=.one (.int kd (if e.rng kw.vk kd then e else TN kd e))} kw).holds sp G U I)(hg:Good sp cx.sm U kw):Sound P sp U G I base cx vw o k kw:=by
 have hd:=(hT _ _ (af hi)).ik kd hk;obtain⟨ds,hs⟩:=(hT _ _ (af his)).und;refine⟨_,kw,h,hg,.refl _,OpOk.pure fun j a w _ Au _ _ _=>⟨.int kd (kd.wrap (e.I U)),?_,?_⟩⟩
 .split
  next hr=>simp[V.den,C.den,pt (E.rng_ok hg.vk e hr)]
  .simp[V.den,C.den,akM]
 .simp[execOp,Ad,cF (Au x Or _ hx),convert,run_underlying hs,run_underlying hd,Conv.intToInt,ZI]
def fK(hT:∀t i,(t,i)∈cx.ty->TIok P t i){f:Nat}{kw:Kw}(Ad:o.op=.fieldAddr s x f){c c':C}(hx:vw.ev x=ZA (.one c)){i:TI}(hi:ap s cx.ty=ZA i)(hf:i.fields[f]? =ZA (fo,ft))(hm:∀j v,c.den U j=ZA v->∃a,v=.pointer (ZA a)/\c'.den U j=ZA (.pointer (ZA (a.add fo))))(h:(k {val:=.one c'} kw).holds sp G U I)(hg:Good sp cx.sm U kw):Sound P sp U G I base cx vw o k kw:=by
 have ht:=hT _ _ (af hi);refine⟨_,kw,h,hg,.refl _,OpOk.pure fun j a w _ Au _ _ _=> ?_⟩;obtain⟨p,he,hd⟩:=hm j _ (Au x Or _ hx);refine⟨_,hd,?_⟩;simp[execOp,Ad,he,ht.fieldAt f fo ft hf,ZI]
def bS(a:Addr)(m n:Nat):(a.add m).add n=a.add (m+n):=by
 unfold Addr.add;by_cases hm:m=0
 .subst hm;simp
 .by_cases hn:n=0
  .subst hn;simp
  .simp[hm,hn,ZU]
def wW{j:J}{v:Value}(h:(C.ptr b off).den U j=ZA v):∃a,v=.pointer (ZA a)/\(C.ptr b (off+fo)).den U j=ZA (.pointer (ZA (a.add fo))):=by simp only[C.den,Ay]at h;obtain⟨kk,hk,rfl⟩:=h;exact⟨_,rfl,by simp[C.den,hk,bB]⟩
def abF{j:J}{v:Value}(h:(C.fp b off).den U j=ZA v):∃a,v=.pointer (ZA a)/\(C.fp b (off+fo)).den U j=ZA (.pointer (ZA (a.add fo))):=by simp only[C.den,Ay]at h;obtain⟨kk,hk,rfl⟩:=h;exact⟨_,rfl,by simp[C.den,hk,bB]⟩
def abG{j:J}{id:Nat}{e:E}{v:Value}(h:(C.ep id Bt e off).den U j=ZA v):∃a,v=.pointer (ZA a)/\(C.ep id Bt e (off+fo)).den U j=ZA (.pointer (ZA (a.add fo))):=by simp only[C.den,de,SV.elem,Ay]at h;obtain⟨s,hs,a,ha,rfl⟩:=h;exact⟨_,rfl,by simp[C.den,hs,SV.elem,ha,bS,ZU]⟩
def afe(hT:∀t i,(t,i)∈cx.ty->TIok P t i){f:Nat}{kw:Kw}(Ad:o.op=.field s x f){cs:List C}(hx:vw.ev x=ZA (.agg cs)){i:TI}(hi:ap s cx.ty=ZA i)(hf:i.fields[f]? =ZA (fo,ft)){v:V}(hp:PG cx ft cs fo=ZA v)(h:(k {val:=v} kw).holds sp G U I)(hg:Good sp cx.sm U kw):Sound P sp U G I base cx vw o k kw:=by
 have ht:=hT _ _ (af hi);refine⟨_,kw,h,hg,.refl _,OpOk.pure fun j a w _ Au _ _ _=> ?_⟩;have hd:=Au x Or _ hx;simp only[V.den,Ay]at hd;obtain⟨vs,EN,he⟩:=hd;obtain⟨u,hu,hr⟩:=ag6 hT hp EN w;refine⟨u,hu,?_⟩;simp[execOp,Ad,<-he,ht.field f fo ft hf,hr,ZI]
def pD{n:Nat}{kw:Kw}(Ad:o.op=.extract x n){vs:List (Bool×List C)}(hx:vw.ev x=ZA (.tup vs)){p:Bool×List C}(hp:vs[n]? =ZA p){v:V}(hv:(∃cs,p=(ZB,cs)/\v=.agg cs)\/∃c,p=(ZC,[c])/\v=.one c)(h:(k {val:=v} kw).holds sp G U I)(hg:Good sp cx.sm U kw):Sound P sp U G I base cx vw o k kw:=by
 refine⟨_,kw,h,hg,.refl _,OpOk.pure fun j a w _ Au _ _ _=> ?_⟩;have hd:=Au x Or _ hx;simp only[V.den,Ay]at hd;obtain⟨us,Md,he⟩:=hd;obtain⟨u,hu,hr⟩:=xD Md n p hp;refine⟨u,?_,?_⟩
 .rcases hv with⟨cs,rfl,rfl⟩|⟨c,rfl,rfl⟩<;>exact hr
 .simp[execOp,Ad,<-he,Instr.extract,hu,ZI]
def jn{ev:Operand->Option V}{j:J}{a:Act}:∀{l:List Operand} {vs:List V},Ew ev l=ZA vs->(∀x∈l,∀v,ev x=ZA v->v.den U j=ZA (a.eval x))->(∀(i:Nat) x u,vs[i]? =ZA x->(l.map a.eval)[i]? =ZA u->x.den U j=ZA u)/\(l.map a.eval).length=vs.length
 |[],vs,h,Au=>by cases h;exact⟨fun i x u hx=>by simp at hx,rfl⟩
 |x::l,vs,h,Au=>by
   simp only[Ew]at h;cases hc:ev x with
   |none=>rw[hc]at h;cases h
   |some v=>
     cases hl:Ew ev l with
     |none=>rw[hc,hl]at h;cases h
     |some us=>
       rw[hc,hl]at h;cases h;obtain⟨h1,h2⟩:=jn hl (fun y hy=>Au y (cR _ hy));refine⟨fun i y u hy hu=> ?_,by simp[h2]⟩;cases i with
       |zero=>simp at hy hu;subst hy hu;exact Au x bW v hc
       |succ i=>exact h1 i y u Yx X2
end
section
variable {P:Program}{sp:Spec}{U:Env}{G:Env->E->Prop}{I:Nat->List Dt->Prop}{base:Nat}{cx:Cx}{vw:Vw}{o:Oper}{k:Eff->Kw->Tr}
def afc{kw:Kw}(Ad:o.op=.binOp op xt x y yt){a b:E}(hx:vw.ev x=ZA (.one (.int k1 a)))(hy:vw.ev y=ZA (.one (.int k2 b))){v:V}{u:Value}(hv:∀j,v.den U j=ZA u)(hr:∀w,(binOp op xt (.int k1 (a.I U)) (.int k2 (b.I U))).run P w=.ok u w)(h:(k {val:=v} kw).holds sp G U I)(hg:Good sp cx.sm U kw):Sound P sp U G I base cx vw o k kw:=by
 refine⟨_,kw,h,hg,.refl _,OpOk.pure fun j ac w _ Au _ _ _=>⟨u,hv j,?_⟩⟩;have h1:=cF (Au x Or _ hx);have h2:=cF (Au y Or _ hy);have h3:=hr w;simp[execOp,Ad,h1,h2,eqGuard_at_int,h3,ZI]
def vH{kw:Kw}(Ad:o.op=.binOp op xt x y yt){a b:E}(hx:vw.ev x=ZA (.one (.bool a)))(hy:vw.ev y=ZA (.one (.bool b))){v:V}{u:Value}(hv:∀j,v.den U j=ZA u)(hr:∀w,(binOp op xt (.bool (a.B U)) (.bool (b.B U))).run P w=.ok u w)(h:(k {val:=v} kw).holds sp G U I)(hg:Good sp cx.sm U kw):Sound P sp U G I base cx vw o k kw:=by
 refine⟨_,kw,h,hg,.refl _,OpOk.pure fun j ac w _ Au _ _ _=>⟨u,hv j,?_⟩⟩;have h1:=kO (Au x Or _ hx);have h2:=kO (Au y Or _ hy);have h3:=hr w;simp[execOp,Ad,h1,h2,eqGuard_at_bool,h3,ZI]
def aay(hT:∀t i,(t,i)∈cx.ty->TIok P t i)(BM:op=.eql\/op=.neq){kw:Kw}(Ad:o.op=.binOp op xt x y yt){cs ds:List C}(hx:vw.ev x=ZA (.agg cs))(hy:vw.ev y=ZA (.agg ds)){i:TI}(hi:ap xt cx.ty=ZA i)(hq:i.eqok=ZB)(ES:fD cs i.zero=ZB/\cs.all (C.rng kw.vk)=ZB)(D3:fD ds i.zero=ZB/\ds.all (C.rng kw.vk)=ZB){e:E}(he:uG (arH cx) cs ds=ZA e)(h:(k {val:=.one (.bool (if op=.eql then e else eD e))} kw).holds sp G U I)(hg:Good sp cx.sm U kw):Sound P sp U G I base cx vw o k kw:=by
 have ht:=hT _ _ (af hi);refine⟨_,kw,h,hg,.refl _,OpOk.pure fun j ac w _ Au _ _ _=>⟨.bool (if op=.eql then e.B U else !e.B U),?_,?_⟩⟩
 .rcases BM with rfl|rfl<;>simp[V.den,C.den,dn]
 .obtain⟨vs,us,h1,h2,h3,h4⟩:=adm (U:=U) (j:=j) he;have KS:=Au x Or _ hx;have MP:=Au y Or _ hy;simp only[V.den,h1,h2,YR,bo]at KS MP;have h5:=ht.eq hq vs us (mN hg.vk ES.1 ES.2 h1) (mN hg.vk D3.1 D3.2 h2) w;have h6:(eqGuard op xt x y (.agg vs.toArray) (.agg us.toArray)).run P w=.ok () w:=by
   rcases BM with rfl|rfl<;>simp[eqGuard,program,ZI,Sem.run,ht.grd hq]
  rcases BM with rfl|rfl<;>simp[execOp,Ad,<-KS,<-MP,h6,binOp,h5,h4,ZI]
def tI(BM:op=.eql\/op=.neq){kw:Kw}(Ad:o.op=.binOp op xt x y yt){c d:C}(hx:vw.ev x=ZA (.one c))(hy:vw.ev y=ZA (.one d)){X Y:Value}(hX:∀j,c.den U j=ZA X)(hY:∀j,d.den U j=ZA Y)(hXY:(∃f,X=.func f #[] #[])\/X=.nilFunc)(hYn:Y=.nilFunc){r:Bool}(he:∀w,(Op.equal xt X Y).run P w=.ok r w)(h:(k {val:=.one (.bool (.tt (if op=.eql then r else !r)))} kw).holds sp G U I)(hg:Good sp cx.sm U kw):Sound P sp U G I base cx vw o k kw:=by
 refine⟨_,kw,h,hg,.refl _,OpOk.pure fun j ac w _ Au _ _ _=>⟨.bool (if op=.eql then r else !r),by simp[V.den,C.den,E.B],?_⟩⟩;have KS:(V.one c).den U j=ZA (ac.eval x):=Au x Or _ hx;have MP:(V.one d).den U j=ZA (ac.eval y):=Au y Or _ hy;have h1:ac.eval x=X:=(ZN ((hX j).symm.trans KS)).symm;have h2:ac.eval y=Y:=(ZN ((hY j).symm.trans MP)).symm;have h3:=he w;subst hYn;rcases hXY with⟨f,rfl⟩|rfl
 .rcases BM with rfl|rfl<;>simp[execOp,Ad,h1,h2,eqGuard,binOp,h3,ZI]
 .rcases BM with rfl|rfl<;>simp[execOp,Ad,h1,h2,eqGuard,binOp,h3,ZI]
def afi(BM:op=.eql\/op=.neq){kw:Kw}(Ad:o.op=.binOp op xt x y yt){fs ps:List (Option (Bool×Nat×Nat))}(hx:vw.ev x=ZA (.one (.clo g fs ps)))(hy:vw.ev y=ZA (.one .nf))(he:∀f a b w,(Op.equal xt (.func (.func f) a b) .nilFunc).run P w=.ok ZC w)(h:(k {val:=.one (.bool (.tt (if op=.eql then ZC else ZB)))} kw).holds sp G U I)(hg:Good sp cx.sm U kw):Sound P sp U G I base cx vw o k kw:=by
 refine⟨_,kw,h,hg,.refl _,OpOk.pure fun j ac w _ Au _ _ _=>⟨.bool (if op=.eql then ZC else ZB),by simp[V.den,C.den,E.B],?_⟩⟩;have KS:(V.one (.clo g fs ps)).den U j=ZA (ac.eval x):=Au x Or _ hx;have MP:(V.one .nf).den U j=ZA (ac.eval y):=Au y Or _ hy;have h2:ac.eval y=.nilFunc:=(ZN MP).symm;have h1:∃f a b,ac.eval x=.func (.func f) a b:=by
  simp only[V.den,C.den,E8]at KS;split at KS
  .exact⟨_,_,_,(ZN KS).symm⟩
  .cases KS
 obtain⟨f,a,b,h1⟩:=h1;have h3:=he f a b w;rcases BM with rfl|rfl<;>simp[execOp,Ad,h1,h2,eqGuard,binOp,h3,ZI]
def adg(h:Ae kd z=ZB)(hs:kd.signed=ZC):0<=z:=by rw[bF]at h;cases kd<;>simp only[IntKind.min,YT]at * <;>simp at * <;>omega
def qr{x y:Int}:(if y<x then y else x)=min x y/\(if y>x then y else x)=max x y:=by constructor<;>split<;>omega
def dJ{kw:Kw}(Ad:o.op=.binOp op xt x y yt){a b:E}(hx:vw.ev x=ZA (.one (.int k1 a)))(hy:vw.ev y=ZA (.one (.int k2 b)))(hr:∀w,(binOp op xt (.int k1 (a.I U)) (.int k2 (b.I U))).run P w=.ok (.int k1 (Ac op k1 (a.I U) (b.I U))) w)(h:(k {val:=.one (.int k1 (kh op k1 a b))} kw).holds sp G U I)(hg:Good sp cx.sm U kw):Sound P sp U G I base cx vw o k kw:=
 afc Ad hx hy (fun j=>by simp[V.den,C.den,ut]) hr h hg
def ny{kw:Kw}(Ad:o.op=.binOp op xt x y yt){a b e:E}(hx:vw.ev x=ZA (.one (.int k1 a)))(hy:vw.ev y=ZA (.one (.int k2 b)))(hr:∀w,(binOp op xt (.int k1 (a.I U)) (.int k2 (b.I U))).run P w=.ok (.bool (e.B U)) w)(h:(k {val:=.one (.bool e)} kw).holds sp G U I)(hg:Good sp cx.sm U kw):Sound P sp U G I base cx vw o k kw:=
 afc Ad hx hy (fun j=>by simp[V.den,C.den]) hr h hg
def bI(a b:Int):decide (a<=b) = !decide (b<a):=by by_cases h:a<=b<;>simp[h]<;>omega
def vz{kw:Kw}(Ad:o.op=.binOp op xt x y yt)(ho:op=.shl\/op=.shr){a b:E}(hx:vw.ev x=ZA (.one (.int k1 a)))(hy:vw.ev y=ZA (.one (.int k2 b)))
  (h:(if k2.signed then AK (Bl b (.p 0)) (fun neg kw=>if neg then .panic else k {val:=.one (.int k1 (kh op k1 a b))} kw) kw
   else if b.rng kw.vk k2 then k {val:=.one (.int k1 (kh op k1 a b))} kw else .stuck 11:Tr).holds sp G U I) (hg:Good sp cx.sm U kw):Sound P sp U G I base cx vw o k kw:=by
 have hr:¬b.I U<0->∀w,(binOp op xt (.int k1 (a.I U)) (.int k2 (b.I U))).run P w=.ok (.int k1 (Ac op k1 (a.I U) (b.I U))) w:=by intro hb w;rcases ho with rfl|rfl<;>simp[binOp,Op.shift,hb,Ac]
 split at h
 .obtain⟨An,h1,g1,_,l1⟩:=aO _ _ _ h hg;rw[dh]at h1;split at h1
  .exact h1.elim
  next hb=>exact(dJ Ad hx hy (hr (fun As=>hb (dm As))) h1 g1).lv l1
 .rename_i hsg;split at h
  next hrg=>have:=adg (E.rng_ok hg.vk b hrg) (by simpa using hsg);exact dJ Ad hx hy (hr Fn) h hg
  .exact h.elim
def afh{kw:Kw}(Ad:o.op=.binOp op xt x y yt)(ho:op=.quo\/op=.rem){a b:E}(hx:vw.ev x=ZA (.one (.int k1 a)))(hy:vw.ev y=ZA (.one (.int k1 b)))(h:(AK (Gq b (.p 0)) (fun z kw=>if z then .panic else k {val:=.one (.int k1 (kh op k1 a b))} kw) kw:Tr).holds sp G U I)(hg:Good sp cx.sm U kw):Sound P sp U G I base cx vw o k kw:=by
 obtain⟨An,h1,g1,_,l1⟩:=aO _ _ _ h hg;rw[qq]at h1;split at h1
 .exact h1.elim
 .rename_i hb;have Ex:¬b.I U=0:=by simpa[E.I]using hb
  refine(dJ Ad hx hy (fun w=> ?_) h1 g1).lv l1;rcases ho with rfl|rfl<;>simp[Ac,binOp_quo,binOp_rem,Op.intDiv,Ex]
def ao8(hT:∀t i,(t,i)∈cx.ty->TIok P t i){kw:Kw}(Ad:o.op=.binOp op xt x y yt){v u:V}(hx:vw.ev x=ZA v)(hy:vw.ev y=ZA u)(h:(Nk cx op xt v u kw k).holds sp G U I)(hg:Good sp cx.sm U kw):Sound P sp U G I base cx vw o k kw:=by
 unfold Nk at h;split at h
 .split at h
  .exact vz Ad (.inl rfl) hx hy h hg
  .exact vz Ad (.inr rfl) hx hy h hg
  .split at h
   .rename_i hk;have B2:=ax hk;subst B2;split at h
    .exact dJ Ad hx hy (fun w=>by simp[Ac,binOp_add,Op.intArith]) h hg
    .exact dJ Ad hx hy (fun w=>by simp[Ac,binOp_sub,Op.intArith]) h hg
    .exact dJ Ad hx hy (fun w=>by simp[Ac,binOp_mul,Op.intArith]) h hg
    .exact dJ Ad hx hy (fun w=>by simp[Ac,binOp_and,intBits_and]) h hg
    .exact dJ Ad hx hy (fun w=>by simp[Ac,binOp_or,intBits_or]) h hg
    .exact dJ Ad hx hy (fun w=>by simp[Ac,binOp_xor,intBits_xor]) h hg
    .exact dJ Ad hx hy (fun w=>by simp[Ac,binOp_andNot,intBits_andNot]) h hg
    .exact afh Ad (.inl rfl) hx hy h hg
    .exact afh Ad (.inr rfl) hx hy h hg
    .exact ny Ad hx hy (fun w=>by simp[binOp_eql,qq]) h hg
    .exact ny Ad hx hy (fun w=>by simp[binOp_neq,dn,qq];rfl) h hg
    .exact ny Ad hx hy (fun w=>by simp[binOp_lss,dh]) h hg
    .exact ny Ad hx hy (fun w=>by simp only[binOp_leq,dn,dh,bI];rfl) h hg
    .exact ny Ad hx hy (fun w=>by simp[binOp_gtr,dh]) h hg
    .exact ny Ad hx hy (fun w=>by simp only[binOp_geq,dn,dh,ge_iff_le,bI];rfl) h hg
    .exact h.elim
   .exact h.elim
 .rename_i a b;have eqb:∀(i:TI),ap xt cx.ty=ZA i->i.isb=ZB->∀w,(Op.equal xt (.bool (a.B U)) (.bool (b.B U))).run P w=.ok (a.B U==b.B U) w:=by
   intro i hi hb w;have hu:=(hT _ _ (af hi)).isb hb;unfold Op.equal Op.maxDepth Op.equalIn;simp[ZI,run_underlying hu]
  split at h
  .split at h
   .rename_i i hi;split at h
    next hb=>have h3:=eqb i hi hb;exact vH Ad hx hy (u:=.bool (a.B U==b.B U)) (fun j=>by simp[V.den,C.den,uu]) (fun w=>by simp[binOp,h3,ZI]) h hg
    .exact h.elim
   .exact h.elim
  .split at h
   .rename_i i hi;split at h
    next hb=>have h3:=eqb i hi hb;exact vH Ad hx hy (u:=.bool (!(a.B U==b.B U))) (fun j=>by simp[V.den,C.den,uu,dn]) (fun w=>by simp[binOp,h3,ZI]) h hg
    .exact h.elim
   .exact h.elim
  .exact h.elim
 .split at h
  .rename_i i hi;split at h
   .rename_i hf;have ht:=(hT _ _ (af hi)).fnt hf;split at h
    .exact afi (.inl rfl) Ad hx hy (fun f a b w=>(ht f a b w).1) h hg
    .exact afi (.inr rfl) Ad hx hy (fun f a b w=>(ht f a b w).1) h hg
    .exact h.elim
   .exact h.elim
  .exact h.elim
 .rename_i g;split at h
  .rename_i i hi;split at h
   .rename_i hf;have ht:=(hT _ _ (af hi)).fnt hf;split at h
    next h0=>cases h0
    next h0=>cases h0
    .exact tI (.inl rfl) Ad hx hy (fun _=>rfl) (fun _=>rfl) (.inl ⟨_,rfl⟩) rfl (fun w=>(ht g #[] #[] w).1) h hg
    .exact tI (.inr rfl) Ad hx hy (fun _=>rfl) (fun _=>rfl) (.inl ⟨_,rfl⟩) rfl (fun w=>(ht g #[] #[] w).1) h hg
    .exact h.elim
   .exact h.elim
  .exact h.elim
 .split at h
  .rename_i i hi;split at h
   .rename_i hf;have ht:=(hT _ _ (af hi)).fnt hf;split at h
    .exact tI (.inl rfl) Ad hx hy (fun _=>rfl) (fun _=>rfl) (.inr rfl) rfl (fun w=>(ht 0 #[] #[] w).2) h hg
    .exact tI (.inr rfl) Ad hx hy (fun _=>rfl) (fun _=>rfl) (.inr rfl) rfl (fun w=>(ht 0 #[] #[] w).2) h hg
    next h0=>exact ai rfl h0
    next h0=>exact ai rfl h0
    .exact h.elim
   .exact h.elim
  .exact h.elim
 .split at h
  .rename_i i e hi he;split at h
   .rename_i hq;simp only[ne]at hq;split at h
    .exact aay hT (.inl rfl) Ad hx hy hi hq.1 ⟨hq.2.1.1,rngs_ok _ kw.vk 0 rfl hq.2.1.2⟩ ⟨hq.2.2.1,rngs_ok _ kw.vk 0 rfl hq.2.2.2⟩ he h hg
    .exact aay hT (.inr rfl) Ad hx hy hi hq.1 ⟨hq.2.1.1,rngs_ok _ kw.vk 0 rfl hq.2.1.2⟩ ⟨hq.2.2.1,rngs_ok _ kw.vk 0 rfl hq.2.2.2⟩ he h hg
    .exact h.elim
   .exact h.elim
  .exact h.elim
 .exact h.elim
end
end Go.Proofs.YtgolejfhoefeaaaGreatDoor
