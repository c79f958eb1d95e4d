import Derived.Test.YtgolejfhoefeaaaGreatDoorRows
import Derived.Test.YtgolejfhoefeaaaGreatDoorLib
import Derived.WalkKit
import Derived.WalkSpells
import Derived.WalkLawsBesides
import Derived.Laws.EntriesVeiled
import Derived.Test.YtgolejfhoefeaaaGreatDoorAdZ
import Derived.Test.YtgolejfhoefeaaaGreatDoorProg
import Derived.Laws.Externs
import Derived.Test.YtgolejfhoefeaaaGreatDoorFrame
import Derived.Laws.OwnMore
import Derived.Deep.RegionHeld3
import Derived.Deep.RegionWith
import Derived.Deep.DeepCutAuto
import Derived.Deep.CutBlock
import Derived.Lib.BitFns
import Derived.ChangeSlices
import Derived.ChangeSame
import Derived.ChangeArms
import Derived.Deep.Slices
set_option maxRecDepth 100000
set_option maxHeartbeats 8000000
set_option linter.defProp false
set_option linter.unusedVariables false
set_option linter.unusedSimpArgs false
namespace Go.Proofs.YtgolejfhoefeaaaGreatDoor
open Option renaming some->ZA,none->ZE
open Bool renaming true->ZB,false->ZC,not_eq_true'->ZO
open Nat renaming reduceAdd->ZD,reduceSub->ZH,add_zero->ZR,pow_le_pow_right->YU
open Go.Proofs.Tryz renaming prog->ZF
open Go.IntKind renaming wrap->ZG,signed->YT,bits->YW
open BitVec renaming ofInt->ZL
open List renaming cons_append->YO,nil_append->YP,append_nil->ZP,flatMap_cons->ZQ,flatMap_nil->ZS
open Go.Proofs.Tryz
open Go.RowKit
variable {x v w op z y cc m a:Int}{i b n:Nat}{t:Bool}{p q q2:Prop}{cs:Array Value}{M:BitVec 64}{l:List VK}{P:Program}{w':World}{ks:List CE}
def fG(a:Int):Bool:=a==32||a==64
def ph(a:Int):Bool:=a==8||a==16||a==32||a==64
def Ap(v a:Int):Int:=if a=8 then v % 256 else if a=16 then v % 65536 else if a=32 then v % 4294967296 else v
def J8(v b:Int):Int:=if v % (2*b)<b then v % (2*b)else 18446744073709551616-2*b+v % (2*b)
def eM(v a:Int):Int:=if a=8 then J8 v 128 else if a=16 then J8 v 32768 else if a=32 then J8 v 2147483648 else v
def abJ(a:Int)(w:World):
  Calls ZF 140 #[.int .i8 a] w fun e w'=>e=.returned (.bool (fG a))/\w=w':=by
 go_enter func140,ntmps140
 go_wp2
 all_goals go_ret
 all_goals (refine⟨tY ?_,rfl⟩;simp_all [fG])
def my(a:Int)(w:World):
  Calls ZF 95 #[.int .i8 a] w fun e w'=>e=.returned (.bool (fG a))/\w=w':=by
 go_enter func95,ntmps95
 go_wp2
 all_goals go_ret
 all_goals (refine⟨tY ?_,rfl⟩;simp_all [fG])
def nD(a:Int)(w:World):
  Calls ZF 134 #[.int .i8 a] w fun e w'=>e=.returned (.bool (ph a))/\w=w':=by
 go_enter func134,ntmps134
 go_wp2
 all_goals go_ret
 all_goals (refine⟨tY ?_,rfl⟩;simp_all [ph])
def aiJ(v a:Int)(w:World)(h0:0<=v)(h1:v<=18446744073709551615):
  Calls ZF 141 #[.int .u64 v,.int .i8 a] w fun e w'=>e=.returned (.int .u64 (Ap v a))/\w=w':=by
 go_enter func141,ntmps141
 go_wp2
 all_goals go_ret
 all_goals (refine⟨bt ?_,rfl⟩)
 all_goals (simp only[cQ,jJ]at *;simp only[Ap,arJ,aW, *];first|rfl|(simp;done)|(simp;omega))
def aki(v a:Int)(w:World)(h0:0<=v)(h1:v<=18446744073709551615):
  Calls ZF 176 #[.int .u64 v,.int .i8 a] w fun e w'=>e=.returned (.int .u64 (eM v a))/\w=w':=by
 go_enter func176,ntmps176
 go_wp2
 all_goals go_ret
 all_goals (refine⟨bt ?_,rfl⟩)
 all_goals (simp only[cQ,jJ]at *;simp only[eM,J8,arJ,aW,w_i8,auH,w_32,Pk, *];first|rfl|(simp;done)|(simp;split<;>omega))
def iS(v a:Int)(w:World)(h0:0<=v)(h1:v<=18446744073709551615):
  Calls ZF 96 #[.int .u64 v,.int .i8 a] w fun e w'=>e=.returned (.int .u64 (Ap v a))/\w=w':=by
 go_enter func96,ntmps96
 go_wp2_with (go_at_call 134;refine(nD _ _).mono ?_;rintro e w' ⟨rfl,rfl⟩)
 all_goals go_ret
 all_goals (refine⟨bt ?_,rfl⟩)
 next h=>simp at h;subst h;simp[Ap]
 .rename_i hw h;simp[ph]at hw h;rcases hw with((rfl|rfl)|rfl)|rfl
  .simp only[aW,Ap];simp;exact auk v h0 h1
  .simp only[aW,Ap];simp;exact ajb 16 Fn v h0 h1
  .simp only[aW,Ap];simp;exact ajb 32 Fn v h0 h1
  .exact Fn
 next hw=>simp[ph]at hw;simp[Ap,hw]
def dk(v a:Int)(h0:0<=v)(h1:v<=18446744073709551615):0<=Ap v a/\Ap v a<=18446744073709551615:=by unfold Ap;split<;>(try split)<;>(try split)<;>omega
def wy(v a:Int)(w:World)(h0:0<=v)(h1:v<=18446744073709551615):
  Calls ZF 97 #[.int .u64 v,.int .i8 a] w fun e w'=>e=.returned (.int .u64 (eM v a))/\w=w':=by
 obtain⟨Q2,hc2⟩:=dk v a h0 h1;by_cases hw:ph a=ZB
 .have Qb:=hw;simp[ph]at Qb;rcases Qb with((rfl|rfl)|rfl)|rfl
  all_goals
   go_enter func97,ntmps97
   go_wp2_with (first|(go_at_call 134;refine(nD _ _).mono ?_;rintro e w' ⟨rfl,rfl⟩)|(go_at_call 96;refine(iS _ _ _ Fn Fn).mono ?_;rintro e w' ⟨rfl,rfl⟩))
   all_goals go_ret
   all_goals (refine⟨bt ?_,rfl⟩)
  all_goals (rename_i hb;rw[and1 _ Fn Fn]at hb;simp[Ap]at Q2 hc2 hb;simp[Ap,eM,J8,aW];try (first|(split<;>omega)|omega))
 .go_enter func97,ntmps97
  go_wp2_with (first|(go_at_call 134;refine(nD _ _).mono ?_;rintro e w' ⟨rfl,rfl⟩)|(go_at_call 96;refine(iS _ _ _ Fn Fn).mono ?_;rintro e w' ⟨rfl,rfl⟩))
  go_ret
  refine⟨bt ?_,rfl⟩;simp[ph]at hw;simp[eM,hw]
def gS:Array Value:= #[.func (.func 163) #[] #[],.func (.func 164) #[] #[],.func (.func 165) #[] #[],.func (.func 166) #[] #[],.func (.func 167) #[] #[],.func (.func 168) #[] #[],.func (.func 169) #[] #[],.func (.func 170) #[] #[],.func (.func 171) #[] #[],.func (.func 172) #[] #[],.func (.func 173) #[] #[],.func (.func 174) #[] #[],.func (.func 175) #[] #[]]
def apO(w:World):
  Calls ZF 142 #[] w fun e w'=>e=.returned (.agg gS)/\Below w.heap.size w w':=by
 go_enter func142,ntmps142
 go_wp2
 exact bodyPost_ret (by simp[results,results142,go_sem];rfl) rfl ⟨rfl,(Below.refl _ _).alloc (Nat.le_refl _) _⟩
def ix0(W:World):(Instr.index 216 (.agg gS) (.int .i8 0)).run ZF W=.ok (.func (.func 163) #[] #[]) W:=by kernel_rfl
def ix1(W:World):(Instr.index 216 (.agg gS) (.int .i8 1)).run ZF W=.ok (.func (.func 164) #[] #[]) W:=by kernel_rfl
def ix2(W:World):(Instr.index 216 (.agg gS) (.int .i8 2)).run ZF W=.ok (.func (.func 165) #[] #[]) W:=by kernel_rfl
def ix3(W:World):(Instr.index 216 (.agg gS) (.int .i8 3)).run ZF W=.ok (.func (.func 166) #[] #[]) W:=by kernel_rfl
def ix4(W:World):(Instr.index 216 (.agg gS) (.int .i8 4)).run ZF W=.ok (.func (.func 167) #[] #[]) W:=by kernel_rfl
def ix5(W:World):(Instr.index 216 (.agg gS) (.int .i8 5)).run ZF W=.ok (.func (.func 168) #[] #[]) W:=by kernel_rfl
def ix6(W:World):(Instr.index 216 (.agg gS) (.int .i8 6)).run ZF W=.ok (.func (.func 169) #[] #[]) W:=by kernel_rfl
def ix7(W:World):(Instr.index 216 (.agg gS) (.int .i8 7)).run ZF W=.ok (.func (.func 170) #[] #[]) W:=by kernel_rfl
def ix8(W:World):(Instr.index 216 (.agg gS) (.int .i8 8)).run ZF W=.ok (.func (.func 171) #[] #[]) W:=by kernel_rfl
def ix9(W:World):(Instr.index 216 (.agg gS) (.int .i8 9)).run ZF W=.ok (.func (.func 172) #[] #[]) W:=by kernel_rfl
def ix10(W:World):(Instr.index 216 (.agg gS) (.int .i8 10)).run ZF W=.ok (.func (.func 173) #[] #[]) W:=by kernel_rfl
def ix11(W:World):(Instr.index 216 (.agg gS) (.int .i8 11)).run ZF W=.ok (.func (.func 174) #[] #[]) W:=by kernel_rfl
def ix12(W:World):(Instr.index 216 (.agg gS) (.int .i8 12)).run ZF W=.ok (.func (.func 175) #[] #[]) W:=by kernel_rfl
def BT(op w a b y:Int):Int:=
 if op=0 then(a+b) % 18446744073709551616
 else if op=1 then(a-b) % 18446744073709551616
 else if op=2 then(a*b) % 18446744073709551616
 else if op=3 then(if b=0 then 0 else a / b)
 else if op=4 then((a.toNat ||| b.toNat:Nat):Int)
 else if op=5 then((a.toNat &&& b.toNat:Nat):Int)
 else if op=6 then(a*2 ^ y.toNat) % 18446744073709551616
 else if op=7 then a / 2 ^ y.toNat
 else if op=8 then(0-a) % 18446744073709551616
 else if op=9 then(if b=0 then a else a % b)
 else if op=10 then((a.toNat ^^^ b.toNat:Nat):Int)
 else if op=11 then b
 else(wrap64 (eM a w) / 2 ^ y.toNat) % 18446744073709551616
def BE(op w a b:Int):Int:=Ap (BT op w (Ap a w) (Ap b w) (Ap b w % w)) w
def ap1(a b y a1:Int)(w:World)(h0:0<=a)(h1:a<=18446744073709551615)(h2:0<=b)(h3:b<=18446744073709551615)(h4:0<=y)(h5:y<=63):
  Calls ZF 163 #[.int .u64 a,.int .u64 b,.int .u64 y,.int .i8 a1] w fun e w'=>e=.returned (.int .u64 (BT 0 a1 a b y))/\w=w':=by
 go_enter func163,ntmps163
 go_wp2
 all_goals go_ret
 all_goals (refine⟨bt ?_,rfl⟩)
 all_goals simp[BT,aW]
def ap0(a b y a1:Int)(w:World)(h0:0<=a)(h1:a<=18446744073709551615)(h2:0<=b)(h3:b<=18446744073709551615)(h4:0<=y)(h5:y<=63):
  Calls ZF 164 #[.int .u64 a,.int .u64 b,.int .u64 y,.int .i8 a1] w fun e w'=>e=.returned (.int .u64 (BT 1 a1 a b y))/\w=w':=by
 go_enter func164,ntmps164
 go_wp2
 all_goals go_ret
 all_goals (refine⟨bt ?_,rfl⟩)
 all_goals simp[BT,aW]
def apZ(a b y a1:Int)(w:World)(h0:0<=a)(h1:a<=18446744073709551615)(h2:0<=b)(h3:b<=18446744073709551615)(h4:0<=y)(h5:y<=63):
  Calls ZF 165 #[.int .u64 a,.int .u64 b,.int .u64 y,.int .i8 a1] w fun e w'=>e=.returned (.int .u64 (BT 2 a1 a b y))/\w=w':=by
 go_enter func165,ntmps165
 go_wp2
 all_goals go_ret
 all_goals (refine⟨bt ?_,rfl⟩)
 all_goals simp[BT,aW]
def apY(a b y a1:Int)(w:World)(h0:0<=a)(h1:a<=18446744073709551615)(h2:0<=b)(h3:b<=18446744073709551615)(h4:0<=y)(h5:y<=63):
  Calls ZF 166 #[.int .u64 a,.int .u64 b,.int .u64 y,.int .i8 a1] w fun e w'=>e=.returned (.int .u64 (BT 3 a1 a b y))/\w=w':=by
 by_cases hz:b=0
 .subst hz
  go_enter func166,ntmps166
  go_wp2
  all_goals go_ret
  all_goals (refine⟨bt ?_,rfl⟩)
  all_goals simp[BT]
 .go_enter func166,ntmps166
  go_wp2
  all_goals go_ret
  all_goals (refine⟨bt ?_,rfl⟩)
  all_goals simp[BT,hz]
def apX(a b y a1:Int)(w:World)(h0:0<=a)(h1:a<=18446744073709551615)(h2:0<=b)(h3:b<=18446744073709551615)(h4:0<=y)(h5:y<=63):
  Calls ZF 167 #[.int .u64 a,.int .u64 b,.int .u64 y,.int .i8 a1] w fun e w'=>e=.returned (.int .u64 (BT 4 a1 a b y))/\w=w':=by
 go_enter func167,ntmps167
 go_wp2
 all_goals go_ret
 all_goals (refine⟨bt ?_,rfl⟩)
 all_goals (rw[u64_or _ _ h0 Fn h2 Fn];simp[BT])
def apW(a b y a1:Int)(w:World)(h0:0<=a)(h1:a<=18446744073709551615)(h2:0<=b)(h3:b<=18446744073709551615)(h4:0<=y)(h5:y<=63):
  Calls ZF 168 #[.int .u64 a,.int .u64 b,.int .u64 y,.int .i8 a1] w fun e w'=>e=.returned (.int .u64 (BT 5 a1 a b y))/\w=w':=by
 go_enter func168,ntmps168
 go_wp2
 all_goals go_ret
 all_goals (refine⟨bt ?_,rfl⟩)
 all_goals (rw[u64_and _ _ h0 Fn h2 Fn];simp[BT])
def apV(a b y a1:Int)(w:World)(h0:0<=a)(h1:a<=18446744073709551615)(h2:0<=b)(h3:b<=18446744073709551615)(h4:0<=y)(h5:y<=63):
  Calls ZF 169 #[.int .u64 a,.int .u64 b,.int .u64 y,.int .i8 a1] w fun e w'=>e=.returned (.int .u64 (BT 6 a1 a b y))/\w=w':=by
 go_enter func169,ntmps169
 go_wp2
 all_goals go_ret
 all_goals (refine⟨bt ?_,rfl⟩)
 all_goals simp[BT,aW]
def apU(a b y a1:Int)(w:World)(h0:0<=a)(h1:a<=18446744073709551615)(h2:0<=b)(h3:b<=18446744073709551615)(h4:0<=y)(h5:y<=63):
  Calls ZF 170 #[.int .u64 a,.int .u64 b,.int .u64 y,.int .i8 a1] w fun e w'=>e=.returned (.int .u64 (BT 7 a1 a b y))/\w=w':=by
 go_enter func170,ntmps170
 go_wp2
 all_goals go_ret
 all_goals (refine⟨bt ?_,rfl⟩)
 all_goals simp[BT]
def apT(a b y a1:Int)(w:World)(h0:0<=a)(h1:a<=18446744073709551615)(h2:0<=b)(h3:b<=18446744073709551615)(h4:0<=y)(h5:y<=63):
  Calls ZF 171 #[.int .u64 a,.int .u64 b,.int .u64 y,.int .i8 a1] w fun e w'=>e=.returned (.int .u64 (BT 8 a1 a b y))/\w=w':=by
 go_enter func171,ntmps171
 go_wp2
 all_goals go_ret
 all_goals (refine⟨bt ?_,rfl⟩)
 all_goals simp[BT,aW]
def apS(a b y a1:Int)(w:World)(h0:0<=a)(h1:a<=18446744073709551615)(h2:0<=b)(h3:b<=18446744073709551615)(h4:0<=y)(h5:y<=63):
  Calls ZF 172 #[.int .u64 a,.int .u64 b,.int .u64 y,.int .i8 a1] w fun e w'=>e=.returned (.int .u64 (BT 9 a1 a b y))/\w=w':=by
 by_cases hz:b=0
 .subst hz
  go_enter func172,ntmps172
  go_wp2
  all_goals go_ret
  all_goals (refine⟨bt ?_,rfl⟩)
  all_goals simp[BT]
 .go_enter func172,ntmps172
  go_wp2
  all_goals go_ret
  all_goals (refine⟨bt ?_,rfl⟩)
  all_goals simp[BT,hz]
def akH(a b y a1:Int)(w:World)(h0:0<=a)(h1:a<=18446744073709551615)(h2:0<=b)(h3:b<=18446744073709551615)(h4:0<=y)(h5:y<=63):
  Calls ZF 173 #[.int .u64 a,.int .u64 b,.int .u64 y,.int .i8 a1] w fun e w'=>e=.returned (.int .u64 (BT 10 a1 a b y))/\w=w':=by
 go_enter func173,ntmps173
 go_wp2
 all_goals go_ret
 all_goals (refine⟨bt ?_,rfl⟩)
 all_goals (rw[u64_xor _ _ h0 Fn h2 Fn];simp[BT])
def akG(a b y a1:Int)(w:World)(h0:0<=a)(h1:a<=18446744073709551615)(h2:0<=b)(h3:b<=18446744073709551615)(h4:0<=y)(h5:y<=63):
  Calls ZF 174 #[.int .u64 a,.int .u64 b,.int .u64 y,.int .i8 a1] w fun e w'=>e=.returned (.int .u64 (BT 11 a1 a b y))/\w=w':=by
 go_enter func174,ntmps174
 go_wp2
 all_goals go_ret
 all_goals (refine⟨bt ?_,rfl⟩)
 all_goals simp[BT]
def akF(a b y a1:Int)(w:World)(h0:0<=a)(h1:a<=18446744073709551615)(h2:0<=b)(h3:b<=18446744073709551615)(h4:0<=y)(h5:y<=63):
  Calls ZF 175 #[.int .u64 a,.int .u64 b,.int .u64 y,.int .i8 a1] w fun e w'=>e=.returned (.int .u64 (BT 12 a1 a b y))/\w=w':=by
 go_enter func175,ntmps175
 go_wp2_with (go_at_call 176;refine(aki _ _ _ Fn Fn).mono ?_;rintro e w' ⟨rfl,rfl⟩)
 all_goals go_ret
 all_goals (refine⟨bt ?_,rfl⟩)
 all_goals simp[BT,aW]
attribute [local go_sem] ix0 ix1 ix2 ix3 ix4 ix5 ix6 ix7 ix8 ix9 ix10 ix11 ix12
def ug(h4:0<=op)(h5:op<=12):op=0\/op=1\/op=2\/op=3\/op=4\/op=5\/op=6\/op=7\/op=8\/op=9\/op=10\/op=11\/op=12:=by omega
def asi(k:Nat):(0:Int)<2 ^ k:=Int.pow_pos Fn
def WG(op w a b y:Int)(h0:0<=a)(h1:a<=18446744073709551615)(h2:0<=b)(h3:b<=18446744073709551615):0<=BT op w a b y/\BT op w a b y<=18446744073709551615:=by
 have e1:=Int.ediv_nonneg h0 h2;have e2:=Int.ediv_le_self b h0;have e3:=Nat.or_lt_two_pow (n:=64) (x:=a.toNat) (y:=b.toNat) Fn Fn;have e4:=Nat.and_le_left (n:=a.toNat) (m:=b.toNat);have e5:=Nat.xor_lt_two_pow (n:=64) (x:=a.toNat) (y:=b.toNat) Fn Fn;have e6:=Int.ediv_nonneg h0 (Int.le_of_lt (asi y.toNat));have e7:=Int.ediv_le_self (2 ^ y.toNat) h0;have e8:b≠0->0<=a % b/\a % b<b:=fun h=>⟨Int.emod_nonneg a h,Int.emod_lt_of_pos a Fn⟩
 unfold BT
 repeat' split
 all_goals omega
def SD(w b:Int)(h2:0<=b)(h3:b<=18446744073709551615)(hw:fG w=ZB):bits .and .u64 b (w-1)=b % w/\32<=w/\w<=64/\0<=b % w/\b % w<=63:=by
 simp[fG]at hw;rcases hw with rfl|rfl
 .exact⟨arq b h2 h3,by omega,by omega,by omega,by omega⟩
 .exact⟨arp b h2 h3,by omega,by omega,by omega,by omega⟩
def at4(op w1 a b:Int)(w:World)(h0:0<=a)(h1:a<=18446744073709551615)(h2:0<=b)(h3:b<=18446744073709551615)(h4:0<=op)(h5:op<=12)(hw:fG w1=ZB):
  Calls ZF 108 #[.int .i8 op,.int .i8 w1,.int .u64 a,.int .u64 b] w fun e w'=>e=.returned (.tuple #[.int .u64 (BE op w1 a b),.int .i64 0])/\Below w.heap.size w w':=by
 obtain⟨A0,Cf⟩:=dk a w1 h0 h1;obtain⟨Iv,DU⟩:=dk b w1 h2 h3;obtain⟨hy,RS,Kr,Qc,Vd⟩:=SD w1 (Ap b w1) Iv DU hw;obtain⟨Ey,LC⟩:=WG op w1 (Ap a w1) (Ap b w1) (Ap b w1 % w1) A0 Cf Iv DU;rcases ug h4 h5 with rfl|rfl|rfl|rfl|rfl|rfl|rfl|rfl|rfl|rfl|rfl|rfl|rfl
 all_goals
  go_enter func108,ntmps108
  go_wp2_with (first
   |(go_at_call 140;refine(abJ _ _).mono ?_;rintro e w' ⟨rfl,rfl⟩)
   |(go_at_call 141;refine(aiJ _ _ _ Fn Fn).mono ?_;rintro e w' ⟨rfl,rfl⟩)
   |(go_at_call 142;refine(apO _).mono ?_;rintro e w1 ⟨rfl,Iv⟩)
   |(go_at_call 163;refine(ap1 _ _ _ _ _ Fn Fn Fn Fn Fn Fn).mono ?_;rintro e w' ⟨rfl,rfl⟩)
   |(go_at_call 164;refine(ap0 _ _ _ _ _ Fn Fn Fn Fn Fn Fn).mono ?_;rintro e w' ⟨rfl,rfl⟩)
   |(go_at_call 165;refine(apZ _ _ _ _ _ Fn Fn Fn Fn Fn Fn).mono ?_;rintro e w' ⟨rfl,rfl⟩)
   |(go_at_call 166;refine(apY _ _ _ _ _ Fn Fn Fn Fn Fn Fn).mono ?_;rintro e w' ⟨rfl,rfl⟩)
   |(go_at_call 167;refine(apX _ _ _ _ _ Fn Fn Fn Fn Fn Fn).mono ?_;rintro e w' ⟨rfl,rfl⟩)
   |(go_at_call 168;refine(apW _ _ _ _ _ Fn Fn Fn Fn Fn Fn).mono ?_;rintro e w' ⟨rfl,rfl⟩)
   |(go_at_call 169;refine(apV _ _ _ _ _ Fn Fn Fn Fn Fn Fn).mono ?_;rintro e w' ⟨rfl,rfl⟩)
   |(go_at_call 170;refine(apU _ _ _ _ _ Fn Fn Fn Fn Fn Fn).mono ?_;rintro e w' ⟨rfl,rfl⟩)
   |(go_at_call 171;refine(apT _ _ _ _ _ Fn Fn Fn Fn Fn Fn).mono ?_;rintro e w' ⟨rfl,rfl⟩)
   |(go_at_call 172;refine(apS _ _ _ _ _ Fn Fn Fn Fn Fn Fn).mono ?_;rintro e w' ⟨rfl,rfl⟩)
   |(go_at_call 173;refine(akH _ _ _ _ _ Fn Fn Fn Fn Fn Fn).mono ?_;rintro e w' ⟨rfl,rfl⟩)
   |(go_at_call 174;refine(akG _ _ _ _ _ Fn Fn Fn Fn Fn Fn).mono ?_;rintro e w' ⟨rfl,rfl⟩)
   |(go_at_call 175;refine(akF _ _ _ _ _ Fn Fn Fn Fn Fn Fn).mono ?_;rintro e w' ⟨rfl,rfl⟩))
  go_ret2
  exact⟨rfl,‹_›⟩
def at3(op w1 a b:Int)(w:World)(HL:(decide (op<0)||decide (12<op) ||!fG w1)=ZB):
  Calls ZF 108 #[.int .i8 op,.int .i8 w1,.int .u64 a,.int .u64 b] w fun e w'=>e=.returned (.tuple #[.int .u64 0,.int .i64 2])/\w=w':=by
 have hc:op<0\/(0<=op/\12<op)\/(0<=op/\op<=12/\fG w1=ZC):=by
  by_cases h1:op<0
  .exact .inl h1
  .by_cases h2:12<op
   .exact Yl
   .exact XO
 clear HL;rcases hc with h|⟨h,h'⟩|⟨h,h',hw⟩
 all_goals
  go_enter func108,ntmps108
  go_wp2_with (go_at_call 140;refine(abJ _ _).mono ?_;rintro e w' ⟨rfl,rfl⟩)
  go_ret2
  exact⟨rfl,rfl⟩
def apG(op w1 a b:Int)(w:World)(HL:(decide (op<0)||decide (12<op) ||!fG w1)=ZB):
  Calls ZF 54 #[.int .i8 op,.int .i8 w1,.int .u64 a,.int .u64 b] w fun e w'=>e=.returned (.tuple #[.int .u64 0,.int .i64 2])/\w=w':=by
 have hc:op<0\/(0<=op/\12<op)\/(0<=op/\op<=12/\fG w1=ZC):=by
  by_cases h1:op<0
  .exact .inl h1
  .by_cases h2:12<op
   .exact Yl
   .exact XO
 clear HL;rcases hc with h|⟨h,h'⟩|⟨h,h',hw⟩
 all_goals
  go_enter func54,ntmps54
  go_wp2_with (go_at_call 95;refine(my _ _).mono ?_;rintro e w' ⟨rfl,rfl⟩)
  go_ret2
  exact⟨rfl,rfl⟩
def apI(x v a:Int)(w:World)(hx:x=v)(h0:0<=v)(h1:v<=18446744073709551615):
  Calls ZF 96 #[.int .u64 x,.int .i8 a] w fun e w'=>e=.returned (.int .u64 (Ap v a))/\w=w':=by
 subst hx;exact iS x a w h0 h1
def apH(op w1 a b:Int)(w:World)(h0:0<=a)(h1:a<=18446744073709551615)(h2:0<=b)(h3:b<=18446744073709551615)(h4:0<=op)(h5:op<=12)(hw:fG w1=ZB):
  Calls ZF 54 #[.int .i8 op,.int .i8 w1,.int .u64 a,.int .u64 b] w fun e w'=>e=.returned (.tuple #[.int .u64 (BE op w1 a b),.int .i64 0])/\w=w':=by
 obtain⟨A0,Cf⟩:=dk a w1 h0 h1;obtain⟨Iv,DU⟩:=dk b w1 h2 h3;obtain⟨hy,RS,Kr,Qc,Vd⟩:=SD w1 (Ap b w1) Iv DU hw;obtain⟨Ey,LC⟩:=WG op w1 (Ap a w1) (Ap b w1) (Ap b w1 % w1) A0 Cf Iv DU;rcases ug h4 h5 with rfl|rfl|rfl|rfl|rfl|rfl|rfl|rfl|rfl|rfl|rfl|rfl|rfl
 all_goals
  go_enter func54,ntmps54
  go_wp2_with (first
   |(go_at_call 95;refine(my _ _).mono ?_;rintro e w' ⟨rfl,rfl⟩)
   |(go_at_call 97;refine(wy _ _ _ Fn Fn).mono ?_;rintro e w' ⟨rfl,rfl⟩)
   |(go_at_call 96;with_reducible refine(iS a _ _ Fn Fn).mono ?_;rintro e w' ⟨rfl,rfl⟩)
   |(go_at_call 96;with_reducible refine(iS b _ _ Fn Fn).mono ?_;rintro e w' ⟨rfl,rfl⟩)
   |(go_at_call 96;refine Calls.mono (apI _ _ _ _ ?_ Ey LC) ?_;rotate_left 1;rintro e w' ⟨rfl,rfl⟩))
 all_goals first
  |(go_ret2;exact⟨rfl,rfl⟩)
  |(rw[u64_or _ _ A0 Fn Iv Fn];simp[BT];done)
  |(rw[u64_and _ _ A0 Fn Iv Fn];simp[BT];done)
  |(rw[u64_xor _ _ A0 Fn Iv Fn];simp[BT];done)
  |(simp[BT,aW];done)
  | (have:Ap b w1=0:=by omega
     simp[BT,this];done)
  | (have:Ap b w1≠0:=by omega
     simp[BT,this];done)
def dR(v:Int):Ap v 32=v % 4294967296:=by simp[Ap]
def dQ(v:Int):Ap v 64=v:=by simp[Ap]
def eG(op w a b:Int)(h0:0<=a)(h1:a<=18446744073709551615)(h2:0<=b)(h3:b<=18446744073709551615):0<=BE op w a b/\BE op w a b<=18446744073709551615:=by obtain⟨A0,Cf⟩:=dk a w h0 h1;obtain⟨Iv,DU⟩:=dk b w h2 h3;obtain⟨Ey,LC⟩:=WG op w (Ap a w) (Ap b w) (Ap b w % w) A0 Cf Iv DU;exact dk _ _ Ey LC
def jz(v w:Int):Ap (Ap v w) w=Ap v w:=by unfold Ap;split<;>(try split)<;>(try split)<;>omega
def zO(op w a b:Int):BE op w (Ap a w) (Ap b w)=BE op w a b:=by unfold BE;rw[jz,jz]
def ajt(op w a b:Int):Ap (BE op w a b) w=BE op w a b:=by unfold BE;rw[jz]
structure Rg where
 ul:Int
 uh:Int
 sl:Int
 sh:Int
 deriving DecidableEq
def Rg.wf(r:Rg):Prop:=(0<=r.ul/\r.ul<=18446744073709551615)/\(0<=r.uh/\r.uh<=18446744073709551615)/\(-9223372036854775808<=r.sl/\r.sl<=9223372036854775807)/\(-9223372036854775808<=r.sh/\r.sh<=9223372036854775807)
abbrev B0(v:Int):Int:=wrap64 v
def bX(v:Int):B0 v=ZG .i64 v:=(Go.IntWalk.i64_left v).symm
abbrev u64(v:Int):Int:=ZG .u64 v
def je(h0:0<=v)(h1:v<=18446744073709551615):B0 v=if v<9223372036854775808 then v else v-18446744073709551616:=by rw[bX,aT];split<;>omega
def ge(v:Int) : -9223372036854775808<=B0 v/\B0 v<=9223372036854775807:=by rw[bX,aT];omega
def al8(h0 : -9223372036854775808<=v)(h1:v<=9223372036854775807):u64 v=if 0<=v then v else v+18446744073709551616:=by unfold u64;rw[aW];split<;>omega
def al9(v:Int):0<=u64 v/\u64 v<=18446744073709551615:=by unfold u64;rw[aW];omega
def ball:Rg:=⟨0,18446744073709551615,-9223372036854775808,9223372036854775807⟩
def Hz(v:Int):Rg:=⟨v,v,B0 v,B0 v⟩
def AT(r:Rg):Bool:=decide (r.ul<=r.uh)&&decide (r.sl<=r.sh)
def AF(r:Rg)(v:Int):Bool:=AT r&&((decide (r.ul<=v)&&decide (v<=r.uh))&&(decide (r.sl<=B0 v)&&decide (B0 v<=r.sh)))
def KW(v:Int):Bool:=decide (9223372036854775808<=v)
def Bb(r:Rg):Rg:=if KW r.ul=KW r.uh then⟨r.ul,r.uh,max r.sl (B0 r.ul),min r.sh (B0 r.uh)⟩else r
def CW(r:Rg):Rg:=if decide (r.sl<0)=decide (r.sh<0)then⟨max r.ul (u64 r.sl),min r.uh (u64 r.sh),r.sl,r.sh⟩else r
def Ba(r:Rg):Bool:=AT r&&(AT (Bb r)&&(AT (CW (Bb r))&&AT (Bb (CW (Bb r)))))
def AG(r:Rg):Rg:=if Ba r=ZB then Bb (CW (Bb r))else ball
def ey(r:Rg):Bool:=decide (r.ul=r.uh)&&AF r r.ul
def aF(r:Rg):Int:=if ey r=ZB then r.ul else 0
def na(a b:Rg):Rg:=⟨min a.ul b.ul,max a.uh b.uh,min a.sl b.sl,max a.sh b.sh⟩
def lB(a b:Rg):Rg:=⟨max a.ul b.ul,min a.uh b.uh,max a.sl b.sl,min a.sh b.sh⟩
def jx(a b:Rg):Rg:=if AT a=ZB/\AT b=ZB then na a b else ball
def fv(a b:Rg):Bool:=AT a&&(AT b&&Ba (lB a b))
def jw(a b:Rg):Rg:=if fv a b=ZB then AG (lB a b)else ball
def Nj(a b:Rg):Bool:=AT a&&(AT b&&decide (jx a b=b))
def dr(r:Rg):AT r=ZB↔r.ul<=r.uh/\r.sl<=r.sh:=by simp[AT]
def aQ(r:Rg)(v:Int):AF r v=ZB↔r.ul<=v/\v<=r.uh/\r.sl<=B0 v/\B0 v<=r.sh:=by
 simp only[AF,AT,ne,aE];constructor
 .rintro ⟨_,⟨h1,h2⟩,h3,h4⟩;exact⟨h1,h2,h3,h4⟩
 .rintro ⟨h1,h2,h3,h4⟩;exact⟨⟨by omega,by omega⟩,⟨h1,h2⟩,h3,h4⟩
def atB(a b:Int):KW a=KW b↔(9223372036854775808<=a↔9223372036854775808<=b):=by unfold KW;exact decide_eq_decide
def dl{r:Rg}(h:r.wf):(Bb r).wf:=by
 unfold Bb;split
 .have h1:=ge r.ul;have h2:=ge r.uh;obtain⟨a1,a2,a3,a4⟩:=h;refine⟨a1,a2,?_,?_⟩<;>simp only<;>omega
 .exact h
def dS{r:Rg}(h:r.wf):(CW r).wf:=by
 unfold CW;split
 .have h1:=al9 r.sl;have h2:=al9 r.sh;obtain⟨a1,a2,a3,a4⟩:=h;refine⟨?_,?_,a3,a4⟩<;>simp only<;>omega
 .exact h
def fw:ball.wf:=by unfold Rg.wf ball;simp
def te{r:Rg}(h:r.wf):(AG r).wf:=by
 unfold AG;split
 .exact dl (dS (dl h))
 .exact fw
def xR(h0:0<=v)(h1:v<=18446744073709551615):(Hz v).wf:=⟨⟨h0,h1⟩,⟨h0,h1⟩,ge v,ge v⟩
def nc{r:Rg}(h:r.wf)(h0:0<=v)(h1:v<=18446744073709551615):AF (Bb r) v=AF r v:=by
 rw[ao,aQ,aQ];unfold Bb;split
 next hh=>rw[atB]at hh;obtain⟨a1,a2,a3,a4⟩:=h;simp only;rw[je h0 h1,je a1.1 a1.2,je a2.1 a2.2];split<;>split<;>split<;>omega
 .exact Iff.rfl
def xJ{r:Rg}(h:r.wf)(h0:0<=v)(h1:v<=18446744073709551615):AF (CW r) v=AF r v:=by
 rw[ao,aQ,aQ];unfold CW;split
 next hh=>rw[decide_eq_decide]at hh;obtain⟨a1,a2,a3,a4⟩:=h;simp only;rw[je h0 h1,al8 a3.1 a3.2,al8 a4.1 a4.2];split<;>split<;>split<;>omega
 .exact Iff.rfl
def dc{r:Rg}(h:AF r v=ZB):AT r=ZB:=by unfold AF at h;rw[ne]at h;exact h.1
def uO{r:Rg}(h:r.wf)(h0:0<=v)(h1:v<=18446744073709551615)(hv:AF r v=ZB):Ba r=ZB:=by have e1:=nc h h0 h1;have e2:=xJ (dl h) h0 h1;have e3:=nc (dS (dl h)) h0 h1;rw[hv]at e1;rw[e1]at e2;rw[e2]at e3;simp[Ba,dc hv,dc e1,dc e2,dc e3]
def qT{r:Rg}(h:r.wf)(h0:0<=v)(h1:v<=18446744073709551615)(hk:Ba r=ZB):AF (AG r) v=AF r v:=by unfold AG;rw[ae hk,nc (dS (dl h)) h0 h1,xJ (dl h) h0 h1,nc h h0 h1]
def ai0{r:Rg}(hk:Ba r=ZB):AT (AG r)=ZB:=by have:=hk;unfold Ba at this;simp only[ne]at this;unfold AG;rw[ae hk];exact this.2.2.2
def qQ{r:Rg}(h:ey r=ZB)(h0:0<=v)(h1:v<=18446744073709551615):AF r v=decide (v=r.ul):=by
 unfold ey at h;rw[ne,aE]at h;obtain⟨e,hh⟩:=h;by_cases hv:v=r.ul
 .rw[hv,hh];simp
 .rw[ff hv];cases hb:AF r v
  .rfl
  .have:=(aQ r v).1 hb;omega
def LF(x:Int)(i:Nat):Bool:=(ZL 64 x).getLsbD i
def aiW(x:BitVec 64):ZL 64 (x.toNat:Int)=x:=by simp
def acn(x:Int):ZL 64 (ZG .i64 x)=ZL 64 x:=by apply BitVec.eq_of_toNat_eq;rw[BitVec.toNat_ofInt,BitVec.toNat_ofInt,aT];omega
def arj(x y:Int):ZL 64 (bits .and .i64 x y)=ZL 64 x &&& ZL 64 y:=(acn _).trans (aiW _)
def ari(x y:Int):ZL 64 (bits .xor .i64 x y)=ZL 64 x ^^^ ZL 64 y:=(acn _).trans (aiW _)
def aeP(x y:Int)(i:Nat):LF (bits .and .i64 x y) i=(LF x i&&LF y i):=by unfold LF;rw[arj,BitVec.getLsbD_and]
def tC(x y:Int)(i:Nat):LF (bits .xor .i64 x y) i=(LF x i ^^ LF y i):=by unfold LF;rw[ari,BitVec.getLsbD_xor]
def ou(h0 : -9223372036854775808<=x)(h1:x<=9223372036854775807):decide (x<0)=LF x 63:=by unfold LF;rw[BitVec.getLsbD,Nat.testBit_eq_decide_div_mod_eq,decide_eq_decide,BitVec.toNat_ofInt];omega
def aln(op:BinOp)(x y:Int):∃z,bits op .i64 x y=ZG .i64 z:=⟨_,rfl⟩
def am7(op:BinOp)(x y:Int) : -9223372036854775808<=bits op .i64 x y/\bits op .i64 x y<=9223372036854775807:=by obtain⟨z,h⟩:=aln op x y;rw[h,<-bX];exact ge z
def ag3{b:Int}(a0 : -9223372036854775808<=a)(a1:a<=9223372036854775807)(b0 : -9223372036854775808<=b)(b1:b<=9223372036854775807):
  decide (0<=bits .and .i64 (bits .xor .i64 a (wrap64 (a+b))) (bits .xor .i64 b (wrap64 (a+b))))=decide (-9223372036854775808<=a+b/\a+b<=9223372036854775807):=by
 have hs:=ge (a+b);have hw:B0 (a+b)=(a+b+9223372036854775808) % 18446744073709551616-9223372036854775808:=by rw[bX];exact aT _
 have hb:=am7 .and (bits .xor .i64 a (B0 (a+b))) (bits .xor .i64 b (B0 (a+b)));have e:=ou hb.1 hb.2;rw[aeP,tC,tC,<-ou a0 a1,<-ou b0 b1,<-ou hs.1 hs.2]at e;show decide (0<=bits .and .i64 (bits .xor .i64 a (B0 (a+b))) (bits .xor .i64 b (B0 (a+b))))=_;generalize bits .and .i64 (bits .xor .i64 a (B0 (a+b))) (bits .xor .i64 b (B0 (a+b)))=t at e hb;generalize B0 (a+b)=s at *;rw[decide_eq_decide];by_cases h1:a<0<;>by_cases h2:b<0<;>by_cases h3:s<0<;>simp[h1,h2,h3]at e<;>omega
def ada{b:Int}(a0 : -9223372036854775808<=a)(a1:a<=9223372036854775807)(b0 : -9223372036854775808<=b)(b1:b<=9223372036854775807):
  decide (0<=bits .and .i64 (bits .xor .i64 a b) (bits .xor .i64 a (wrap64 (a-b))))=decide (-9223372036854775808<=a-b/\a-b<=9223372036854775807):=by
 have hs:=ge (a-b);have hw:B0 (a-b)=(a-b+9223372036854775808) % 18446744073709551616-9223372036854775808:=by rw[bX];exact aT _
 have hb:=am7 .and (bits .xor .i64 a b) (bits .xor .i64 a (B0 (a-b)));have e:=ou hb.1 hb.2;rw[aeP,tC,tC,<-ou a0 a1,<-ou b0 b1,<-ou hs.1 hs.2]at e;show decide (0<=bits .and .i64 (bits .xor .i64 a b) (bits .xor .i64 a (B0 (a-b))))=_;generalize bits .and .i64 (bits .xor .i64 a b) (bits .xor .i64 a (B0 (a-b)))=t at e hb;generalize B0 (a-b)=s at *;rw[decide_eq_decide];by_cases h1:a<0<;>by_cases h2:b<0<;>by_cases h3:s<0<;>simp[h1,h2,h3]at e<;>omega
def aB(n:Nat):Nat:=if n=0 then 0 else Nat.log2 n+1
def lg(v:Int):Int:=2 ^ aB v.toNat-1
def qR(n:Nat):n<2 ^ aB n:=by
 unfold aB;split
 .subst_vars;simp
 .exact Nat.lt_log2_self
def ai1(h:n≠0):2 ^ (aB n-1)<=n:=by unfold aB;rw[aa h];exact Nat.log2_self_le h
def gE{k:Nat}(h:n<2 ^ k):aB n<=k:=by
 rcases Nat.eq_zero_or_pos n with h0|h0
 .simp[aB,h0]
 .have h1:=ai1 (n:=n) Fn;rcases bC k (aB n)with hk|hk
  .have:2 ^ k<=2 ^ (aB n-1):=YU Fn Fn;omega
  .exact hk
def act(h0:0<=v)(h:v.toNat<2 ^ aB m.toNat):v<=lg m:=by
 unfold lg;have:((2:Int) ^ aB m.toNat)=((2 ^ aB m.toNat:Nat):Int):=by simp
 rw[this];omega
def uP(h:v<=18446744073709551615):0<=lg v/\lg v<=18446744073709551615:=by
 have h1:v.toNat<2 ^ 64:=Fn;have h2:=gE h1;have h3:2 ^ aB v.toNat<=2 ^ 64:=YU Fn h2;have h4:0<2 ^ aB v.toNat:=Nat.pow_pos Fn;unfold lg;have:((2:Int) ^ aB v.toNat)=((2 ^ aB v.toNat:Nat):Int):=by simp
 rw[this];omega
def E7(a b:Rg):Rg:=
 ⟨if a.uh+b.uh<=18446744073709551615 then a.ul+b.ul else 0,if a.uh+b.uh<=18446744073709551615 then a.uh+b.uh else 18446744073709551615,
  if(-9223372036854775808<=a.sl+b.sl/\a.sl+b.sl<=9223372036854775807)/\(-9223372036854775808<=a.sh+b.sh/\a.sh+b.sh<=9223372036854775807)then a.sl+b.sl else -9223372036854775808,
  if(-9223372036854775808<=a.sl+b.sl/\a.sl+b.sl<=9223372036854775807)/\(-9223372036854775808<=a.sh+b.sh/\a.sh+b.sh<=9223372036854775807)then a.sh+b.sh else 9223372036854775807⟩
def E6(a b:Rg):Rg:=
 ⟨if b.uh<=a.ul then a.ul-b.uh else 0,if b.uh<=a.ul then a.uh-b.ul else 18446744073709551615,
  if(-9223372036854775808<=a.sl-b.sh/\a.sl-b.sh<=9223372036854775807)/\(-9223372036854775808<=a.sh-b.sl/\a.sh-b.sl<=9223372036854775807)then a.sl-b.sh else -9223372036854775808,
  if(-9223372036854775808<=a.sl-b.sh/\a.sl-b.sh<=9223372036854775807)/\(-9223372036854775808<=a.sh-b.sl/\a.sh-b.sl<=9223372036854775807)then a.sh-b.sl else 9223372036854775807⟩
def bu(l h:Int):Rg:=⟨l,h,-9223372036854775808,9223372036854775807⟩
def Ho(b:Rg):Nat:=(b.ul % 64).toNat
def CV(op:Int)(a b:Rg):Rg:=
 if op=11 then b else if op=0 then E7 a b else if op=1 then E6 a b
 else if op=5 then bu 0 (min a.uh b.uh)
 else if op=4 then bu (max a.ul b.ul) (lg (max a.uh b.uh))
 else if op=10 then bu 0 (lg (max a.uh b.uh))
 else if op=3 then(if 0<b.ul then bu (a.ul / b.uh) (a.uh / b.ul)else bu 0 a.uh)
 else if op=9 then(if 0<b.ul then bu 0 (min a.uh (b.uh-1))else bu 0 a.uh)
 else if op=7 then(if ey b=ZB then bu (a.ul / 2 ^ Ho b) (a.uh / 2 ^ Ho b)else ball)
 else if op=6 then(if ey b=ZB/\aB a.uh.toNat+Ho b<=64 then bu (a.ul*2 ^ Ho b) (a.uh*2 ^ Ho b)else ball)
 else ball
def DZ(op:Int)(a b:Rg):Rg:=if AT a=ZB/\AT b=ZB then AG (CV op a b)else ball
def kU(v:Int)(h0:0<=v)(h1:v<=18446744073709551615):AF ball v=ZB:=by rw[aQ];have:=ge v;exact⟨h0,h1,this.1,this.2⟩
def ko{l h:Int}(h0:l<=v)(h1:v<=h):AF (bu l h) v=ZB:=by rw[aQ];have:=ge v;exact⟨h0,h1,this.1,this.2⟩
def ah9{r:Rg}(hr:r.wf)(h0:0<=v)(h1:v<=18446744073709551615)(h:AF r v=ZB):AF (AG r) v=ZB:=by rw[qT hr h0 h1 (uO hr h0 h1 h),h]
def aqS{a b:Rg}(ha:a.wf)(hb:b.wf)(v0:0<=v)(v1:v<=18446744073709551615)(w0:0<=w)(w1:w<=18446744073709551615)(h1:AF a v=ZB)(h2:AF b w=ZB):
  AF (E7 a b) ((v+w) % 18446744073709551616)=ZB:=by
 rw[aQ]at h1 h2 ⊢;rw[je v0 v1]at h1;rw[je w0 w1]at h2;rw[je Fn Fn];obtain⟨a1,a2,a3,a4⟩:=ha;obtain⟨b1,b2,b3,b4⟩:=hb;unfold E7;simp only;refine⟨?_,?_,?_,?_⟩
 .exact YM
 .exact YM
 .exact XP
 .exact XP
def aqT{a b:Rg}(ha:a.wf)(hb:b.wf)(v0:0<=v)(v1:v<=18446744073709551615)(w0:0<=w)(w1:w<=18446744073709551615)(h1:AF a v=ZB)(h2:AF b w=ZB):
  AF (E6 a b) ((v-w) % 18446744073709551616)=ZB:=by
 rw[aQ]at h1 h2 ⊢;rw[je v0 v1]at h1;rw[je w0 w1]at h2;rw[je Fn Fn];obtain⟨a1,a2,a3,a4⟩:=ha;obtain⟨b1,b2,b3,b4⟩:=hb;unfold E6;simp only;refine⟨?_,?_,?_,?_⟩
 .exact YM
 .exact YM
 .exact XP
 .exact XP
def pw{l h:Int}(h0:0<=l)(h1:l<=18446744073709551615)(h2:0<=h)(h3:h<=18446744073709551615):(bu l h).wf:=⟨⟨h0,h1⟩,⟨h2,h3⟩,by simp[bu],by simp[bu]⟩
def aoC{a b:Rg}(ha:a.wf)(hb:b.wf)(h1:AT a=ZB)(h2:AT b=ZB):(E7 a b).wf:=by rw[dr]at h1 h2;obtain⟨a1,a2,a3,a4⟩:=ha;obtain⟨b1,b2,b3,b4⟩:=hb;unfold E7;refine⟨?_,?_,?_,?_⟩<;>simp only<;>split<;>omega
def aoD{a b:Rg}(ha:a.wf)(hb:b.wf)(h1:AT a=ZB)(h2:AT b=ZB):(E6 a b).wf:=by rw[dr]at h1 h2;obtain⟨a1,a2,a3,a4⟩:=ha;obtain⟨b1,b2,b3,b4⟩:=hb;unfold E6;refine⟨?_,?_,?_,?_⟩<;>simp only<;>split<;>omega
def aml(h0:0<=x)(k:Nat):0<=x / 2 ^ k/\x / 2 ^ k<=x:=by have hp:(0:Int)<2 ^ k:=Int.pow_pos Fn;refine⟨Int.ediv_nonneg h0 Fn,Int.ediv_le_self _ h0⟩
def WZ(h0:0<=x)(hy:x<=y){k:Nat}(h:aB y.toNat+k<=64):0<=x*2 ^ k/\x*2 ^ k<=y*2 ^ k/\y*2 ^ k<=18446744073709551615:=by
 have hp:(0:Int)<2 ^ k:=Int.pow_pos Fn;refine⟨Int.mul_nonneg h0 Fn,Int.mul_le_mul_of_nonneg_right hy Fn,?_⟩;have h1:=qR y.toNat;have h2:(y.toNat+1)*2 ^ k<=2 ^ aB y.toNat*2 ^ k:=Nat.mul_le_mul_right _ Fn;rw[<-Nat.pow_add]at h2;have h3:2 ^ (aB y.toNat+k)<=2 ^ 64:=YU Fn h;have h4:0<2 ^ k:=Nat.pow_pos Fn;have e:y*2 ^ k=((y.toNat*2 ^ k:Nat):Int):=by have:((y.toNat:Nat):Int)=y:=Fn;rw[Int.natCast_mul,this];simp
 rw[e];rw[Nat.add_mul]at h2;omega
def aci(h0:0<=x)(hz:0<z)(h:z<=y):x / y<=x / z:=by have hy:0<y:=Fn;refine Int.le_ediv_of_mul_le hz ?_;have h1:x / y*z<=x / y*y:=Int.mul_le_mul_of_nonneg_left h (Int.ediv_nonneg h0 Fn);have h2:=Int.ediv_mul_le x (show y≠0 by omega);omega
def Xm{x y z:Int}(h0:0<=x)(h1:x<=18446744073709551615)(hy:0<y):0<=x / y/\x / y<=18446744073709551615:=by have:=Int.ediv_le_self y h0;exact⟨Int.ediv_nonneg h0 Fn,by omega⟩
def ad0{a b:Rg}(ha:a.wf)(hb:b.wf)(h1:AT a=ZB)(h2:AT b=ZB):(CV op a b).wf:=by
 have m1:=(dr a).1 h1;have m2:=(dr b).1 h2;have CX:=ha;have Ex:=hb;obtain⟨a1,a2,a3,a4⟩:=CX;obtain⟨b1,b2,b3,b4⟩:=Ex;have f:=uP (v:=max a.uh b.uh) Fn;unfold CV;by_cases o11:op=11
 .rw[ae o11];exact hb
 rw[aa o11];by_cases o0:op=0
 .rw[ae o0];exact aoC ha hb h1 h2
 rw[aa o0];by_cases o1:op=1
 .rw[ae o1];exact aoD ha hb h1 h2
 rw[aa o1];by_cases o5:op=5
 .rw[ae o5];exact pw Fn Fn Fn Fn
 rw[aa o5];by_cases o4:op=4
 .rw[ae o4];exact pw Fn Fn f.1 f.2
 rw[aa o4];by_cases o10:op=10
 .rw[ae o10];exact pw Fn Fn f.1 f.2
 rw[aa o10];by_cases o3:op=3
 .rw[ae o3];split
  .have e1:=Xm (z:=0) a1.1 a1.2 (show 0<b.uh by omega);have e2:=Xm (z:=0) a2.1 a2.2 (show 0<b.ul by omega);exact pw e1.1 e1.2 e2.1 e2.2
  .exact pw Fn Fn Fn Fn
 rw[aa o3];by_cases o9:op=9
 .rw[ae o9];split
  .exact pw Fn Fn Fn Fn
  .exact pw Fn Fn Fn Fn
 rw[aa o9];by_cases o7:op=7
 .rw[ae o7];split
  .have e1:=aml a1.1 (Ho b);have e2:=aml a2.1 (Ho b);exact pw e1.1 Fn e2.1 Fn
  .exact fw
 rw[aa o7];by_cases o6:op=6
 .rw[ae o6];split
  next h=>have e1:=WZ a1.1 m1.1 h.2;exact pw e1.1 Fn Fn Fn
  .exact fw
 rw[aa o6];exact fw
def zU{a b:Rg}(ha:a.wf)(hb:b.wf):(DZ op a b).wf:=by
 unfold DZ;split
 next h=>exact te (ad0 ha hb h.1 h.2)
 .exact fw
def auE(op a b:Int):BE op 64 a b=BT op 64 a b (b % 64):=by unfold BE;rw[dQ,dQ,dQ]
def aie{a b:Rg}(ha:a.wf)(hb:b.wf)(v0:0<=v)(v1:v<=18446744073709551615)(w0:0<=w)(w1:w<=18446744073709551615)(h1:AF a v=ZB)(h2:AF b w=ZB)(Hu:0<=BE op 64 v w)(Ey:BE op 64 v w<=18446744073709551615):AF (DZ op a b) (BE op 64 v w)=ZB:=by
 have m1:=dc h1;have m2:=dc h2;have x1:=(aQ a v).1 h1;have x2:=(aQ b w).1 h2;unfold DZ;rw[ae ⟨m1,m2⟩];refine ah9 (ad0 ha hb m1 m2) Hu Ey ?_;rw[auE]at Hu Ey ⊢;have OI:v.toNat<2 ^ aB (max a.uh b.uh).toNat/\w.toNat<2 ^ aB (max a.uh b.uh).toNat:=by have:=qR (max a.uh b.uh).toNat;omega
 unfold CV;unfold BT at Hu Ey ⊢;by_cases o11:op=11
 .subst o11;simpa using h2
 rw[aa o11];by_cases o0:op=0
 .subst o0;simpa using aqS ha hb v0 v1 w0 w1 h1 h2
 rw[aa o0];by_cases o1:op=1
 .subst o1;simpa using aqT ha hb v0 v1 w0 w1 h1 h2
 rw[aa o1];by_cases o5:op=5
 .subst o5;have e1:v.toNat &&& w.toNat<=v.toNat:=Nat.and_le_left;have e2:v.toNat &&& w.toNat<=w.toNat:=Nat.and_le_right;simp at Hu Ey ⊢;exact ko Fn Fn
 rw[aa o5];by_cases o4:op=4
 .subst o4;have e1:v.toNat<=v.toNat ||| w.toNat:=Nat.left_le_or;have e2:w.toNat<=v.toNat ||| w.toNat:=Nat.right_le_or;have e3:=Nat.or_lt_two_pow OI.1 OI.2;simp at Hu Ey ⊢;exact ko Fn (act Fn (by simpa using e3))
 rw[aa o4];by_cases o10:op=10
 .subst o10;have e3:=Nat.xor_lt_two_pow OI.1 OI.2;simp at Hu Ey ⊢;exact ko Fn (act Fn (by simpa using e3))
 rw[aa o10];by_cases o3:op=3
 .subst o3;simp at Hu Ey ⊢;by_cases Jd:0<b.ul
  .rw[ae Jd,aa Fn];refine ko ?_ ?_
   .exact Int.le_trans (Int.ediv_le_ediv Fn x1.1) (by
     have:=ha.1;exact aci Fn Fn x2.2.1)
   .exact Int.le_trans (Int.ediv_le_ediv Fn x1.2.1) (aci (by have:=ha.2.1;omega) Jd x2.1)
  .rw[aa Jd];refine ko Fn ?_;split
   .exact Fn
   .have:=Int.ediv_le_self w v0;omega
 rw[aa o3];by_cases o9:op=9
 .subst o9;simp at Hu Ey ⊢;by_cases Jd:0<b.ul
  .rw[ae Jd,aa Fn];have e1:=Int.emod_lt_of_pos v (show 0<w by omega);have e2:=Int.emod_nonneg v (show w≠0 by omega);have e3:v % w<=v:=by
    have:=Int.emod_add_mul_ediv v w;have h4:0<=w*(v / w):=Int.mul_nonneg w0 (Int.ediv_nonneg v0 w0);omega
   exact ko e2 Fn
  .rw[aa Jd];split
   .exact ko v0 Fn
   .have e2:=Int.emod_nonneg v (show w≠0 by omega);have e3:v % w<=v:=by
     have:=Int.emod_add_mul_ediv v w;have h4:0<=w*(v / w):=Int.mul_nonneg w0 (Int.ediv_nonneg v0 w0);omega
    exact ko e2 Fn
 rw[aa o9];have RJ:ey b=ZB->(w % 64).toNat=Ho b:=by intro h;have:=qQ h w0 w1;rw[h2]at this;have:=Ah this.symm;unfold Ho;rw[this]
 by_cases o7:op=7
 .subst o7;simp at Hu Ey ⊢;by_cases hs:ey b=ZB
  .rw[ae hs,RJ hs];have hp:(0:Int)<2 ^ Ho b:=Int.pow_pos Fn;exact ko (Int.ediv_le_ediv hp x1.1) (Int.ediv_le_ediv hp x1.2.1)
  .rw[aa hs];exact kU _ Hu Ey
 rw[aa o7];by_cases o6:op=6
 .subst o6;simp at Hu Ey ⊢;by_cases hs:ey b=ZB/\aB a.uh.toNat+Ho b<=64
  .rw[ae hs,RJ hs.1];have hp:(0:Int)<2 ^ Ho b:=Int.pow_pos Fn;have e1:=WZ v0 x1.2.1 hs.2;rw[Int.emod_eq_of_lt e1.1 Fn];exact ko (Int.mul_le_mul_of_nonneg_right x1.1 Fn) e1.2.1
  .rw[aa hs];exact kU _ Hu Ey
 rw[aa o6];exact kU _ Hu Ey
def aid{a b:Rg}(h1:AF a v=ZB)(h2:AT b=ZB):AF (jx a b) v=ZB:=by unfold jx;rw[ae ⟨dc h1,h2⟩];rw[aQ]at h1 ⊢;unfold na;simp only;omega
def aic{a b:Rg}(h1:AT a=ZB)(h2:AF b v=ZB):AF (jx a b) v=ZB:=by unfold jx;rw[ae ⟨h1,dc h2⟩];rw[aQ]at h2 ⊢;unfold na;simp only;omega
def ark{a b:Rg}:Nj a b=ZB↔(AT a=ZB/\AT b=ZB)/\b.ul<=a.ul/\a.uh<=b.uh/\b.sl<=a.sl/\a.sh<=b.sh:=by
 unfold Nj;rw[ne,ne,aE];constructor
 .rintro ⟨h1,h2,h3⟩;refine⟨⟨h1,h2⟩,?_⟩;unfold jx at h3;rw[ae ⟨h1,h2⟩]at h3;obtain⟨b1,b2,b3,b4⟩:=b;simp only[na,Rg.mk.injEq]at h3 ⊢;omega
 .rintro ⟨⟨h1,h2⟩,h3⟩;refine⟨h1,h2,?_⟩;unfold jx;rw[ae ⟨h1,h2⟩];obtain⟨b1,b2,b3,b4⟩:=b;simp only[na,Rg.mk.injEq]at h3 ⊢;omega
def Rg.Sub(a b:Rg):Prop:=b.ul<=a.ul/\a.uh<=b.uh/\b.sl<=a.sl/\a.sh<=b.sh
def Rg.Sub.refl(a:Rg):a.Sub a:=⟨Int.le_refl _,Int.le_refl _,Int.le_refl _,Int.le_refl _⟩
def Rg.Sub.trans{a b c:Rg}(h:a.Sub b)(g:b.Sub c):a.Sub c:=by obtain⟨h1,h2,h3,h4⟩:=h;obtain⟨g1,g2,g3,g4⟩:=g;exact⟨by omega,by omega,by omega,by omega⟩
def aat(r:Rg):(Bb r).Sub r:=by
 unfold Bb;split
 .unfold Rg.Sub;simp only;omega
 .exact Rg.Sub.refl r
def ajX(r:Rg):(CW r).Sub r:=by
 unfold CW;split
 .unfold Rg.Sub;simp only;omega
 .exact Rg.Sub.refl r
def ajY{r:Rg}(h:Ba r=ZB):(AG r).Sub r:=by unfold AG;rw[ae h];exact(aat _).trans ((ajX _).trans (aat _))
def aug{a b:Rg}(h1:AT a=ZB)(h2:AT b=ZB)(h:a.Sub b):Nj a b=ZB:=ark.2 ⟨⟨h1,h2⟩,h⟩
def sY{a b:Rg}(ha:a.wf)(hb:b.wf):(lB a b).wf:=by obtain⟨a1,a2,a3,a4⟩:=ha;obtain⟨b1,b2,b3,b4⟩:=hb;unfold lB;refine⟨?_,?_,?_,?_⟩<;>simp only<;>omega
def aia{a b:Rg}:AF (lB a b) v=(AF a v&&AF b v):=by rw[ao,ne,aQ,aQ,aQ];unfold lB;simp only;omega
def abY{a b:Rg}(ha:a.wf)(hb:b.wf)(v0:0<=v)(v1:v<=18446744073709551615)(h:AF b v=ZB):AF a v=(fv a b&&AF (jw a b) v):=by
 have e:=aia (a:=a) (b:=b) (v:=v);rw[h,Bool.and_true]at e;cases hm:fv a b
 .rw[av];cases hv:AF a v
  .rfl
  .exfalso;rw[hv]at e;have:=uO (sY ha hb) v0 v1 e;simp[fv,dc hv,dc h,this]at hm
 .rw[Bool.true_and];unfold jw;rw[ae hm];unfold fv at hm;simp only[ne]at hm;rw[qT (sY ha hb) v0 v1 hm.2.2,e]
def ajW{a b:Rg}(h:fv a b=ZB):(jw a b).Sub a/\AT (jw a b)=ZB:=by have h':=h;unfold fv at h';simp only[ne]at h';unfold jw;rw[ae h];refine⟨(ajY h'.2.2).trans ?_,ai0 h'.2.2⟩;unfold Rg.Sub lB;simp only;omega
def C5(r:Rg):Rg:=if AT r=ZB/\r.uh<=4294967295 then r else AG (bu 0 4294967295)
def aib{r:Rg}(v0:0<=v)(h:AF r v=ZB):AF (C5 r) (v % 4294967296)=ZB:=by
 unfold C5;split
 next hh=>have:=(aQ r v).1 h;rw[show v % 4294967296=v by omega];exact h
 .exact ah9 (pw Fn Fn Fn Fn) Fn Fn (ko Fn Fn)
def zK(cc v w:Int):Bool:=
 if cc=0 then decide (v=w)else if cc=1 then !decide (v=w)else if cc=2 then decide (w<v)else if cc=3 then decide (w<=v)else if cc=4 then decide (v<w)else if cc=5 then decide (v<=w)
 else if cc=6 then decide (B0 w<B0 v)else if cc=7 then decide (B0 w<=B0 v)else if cc=8 then decide (B0 v<B0 w)else if cc=9 then decide (B0 v<=B0 w)else ZB
def Bw(cc:Int)(a b:Rg):Bool:=
 if cc=1 then(if ey b=ZB then !decide (a.ul=b.ul/\a.uh=b.ul) &&!decide (a.sl=B0 b.ul/\a.sh=B0 b.ul)else ZB)
 else if cc=2 then !decide (b.ul=18446744073709551615)else if cc=4 then !decide (b.uh=0)else if cc=6 then !decide (b.sl=9223372036854775807)else if cc=8 then !decide (b.sh = -9223372036854775808)else ZB
def BU(cc:Int)(a b:Rg):Rg:=
 if cc=1 then(if ey b=ZB then⟨if a.ul=b.ul then a.ul+1 else a.ul,if a.ul≠b.ul/\a.uh=b.ul then a.uh-1 else a.uh,if a.sl=B0 b.ul then a.sl+1 else a.sl,if a.sl≠B0 b.ul/\a.sh=B0 b.ul then a.sh-1 else a.sh⟩else a)
 else if cc=2 then⟨max a.ul (b.ul+1),a.uh,a.sl,a.sh⟩else if cc=3 then⟨max a.ul b.ul,a.uh,a.sl,a.sh⟩
 else if cc=4 then⟨a.ul,min a.uh (b.uh-1),a.sl,a.sh⟩else if cc=5 then⟨a.ul,min a.uh b.uh,a.sl,a.sh⟩
 else if cc=6 then⟨a.ul,a.uh,max a.sl (b.sl+1),a.sh⟩else if cc=7 then⟨a.ul,a.uh,max a.sl b.sl,a.sh⟩
 else if cc=8 then⟨a.ul,a.uh,a.sl,min a.sh (b.sh-1)⟩else if cc=9 then⟨a.ul,a.uh,a.sl,min a.sh b.sh⟩else a
def jy(cc:Int)(a b:Rg):Bool:=AT a&&(AT b&&(decide (0<=cc)&&decide (cc<=10)))
def CI(cc:Int)(a b:Rg):Bool:=jy cc a b&&(if cc=0 then fv a b else Bw cc a b&&Ba (BU cc a b))
def C4(cc:Int)(a b:Rg):Rg:=if CI cc a b=ZB then(if cc=0 then jw a b else AG (BU cc a b))else ball
def apv(v0:0<=v)(v1:v<=18446744073709551615)(w0:0<=w)(w1:w<=18446744073709551615)(h:B0 v=B0 w):v=w:=by rw[je v0 v1,je w0 w1]at h;split at h<;>split at h<;>omega
def apC{a b:Rg}(v0:0<=v)(v1:v<=18446744073709551615)(w0:0<=w)(w1:w<=18446744073709551615)(hb:b.wf)(h1:AF a v=ZB)(h2:AF b w=ZB)(hy:zK cc v w=ZB)(c0:cc≠0):Bw cc a b=ZB/\AF (BU cc a b) v=ZB:=by
 have x1:=(aQ a v).1 h1;have x2:=(aQ b w).1 h2;have sv:=ge v;have sw:=ge w;obtain⟨b1,b2,b3,b4⟩:=hb;rw[aQ];unfold zK at hy;unfold Bw BU;rw[aa c0]at hy;by_cases c1:cc=1
 .rw[ae c1]at hy ⊢;rw[ae c1];by_cases hs:ey b=ZB
  .rw[ae hs,ae hs];have e:=qQ hs w0 w1;rw[h2]at e;have e:=Ah e.symm;have BM:v≠b.ul:=by rw[<-e];simpa using hy
   have hns:B0 v≠B0 b.ul:=fun h=>BM (apv v0 v1 Fn Fn h);generalize B0 b.ul=t at *;generalize B0 v=s at *;refine⟨?_,?_⟩
   .simp only[ne,ZO,mi];omega
   .simp only;refine⟨?_,?_,?_,?_⟩<;>split<;>omega
  .rw[aa hs,aa hs];exact⟨rfl,x1⟩
 rw[aa c1]at hy ⊢;rw[aa c1];generalize B0 v=s at *;generalize B0 w=t at *;by_cases c2:cc=2
 .rw[ae c2]at hy ⊢;rw[ae c2];have hy:=Ah hy;exact⟨by simp only[ZO,mi];omega,by simp only;omega⟩
 rw[aa c2]at hy ⊢;rw[aa c2];by_cases c3:cc=3
 .subst c3;have hy:w<=v:=Yx;simp;omega
 rw[aa c3]at hy;rw[aa c3];by_cases c4:cc=4
 .rw[ae c4]at hy ⊢;rw[ae c4];have hy:=Ah hy;exact⟨by simp only[ZO,mi];omega,by simp only;omega⟩
 rw[aa c4]at hy ⊢;rw[aa c4];by_cases c5:cc=5
 .subst c5;have hy:v<=w:=Yx;simp;omega
 rw[aa c5]at hy;rw[aa c5];by_cases c6:cc=6
 .rw[ae c6]at hy ⊢;rw[ae c6];have hy:=Ah hy;exact⟨by simp only[ZO,mi];omega,by simp only;omega⟩
 rw[aa c6]at hy ⊢;rw[aa c6];by_cases c7:cc=7
 .subst c7;have hy:t<=s:=Yx;simp;omega
 rw[aa c7]at hy;rw[aa c7];by_cases c8:cc=8
 .rw[ae c8]at hy ⊢;rw[ae c8];have hy:=Ah hy;exact⟨by simp only[ZO,mi];omega,by simp only;omega⟩
 rw[aa c8]at hy ⊢;rw[aa c8];by_cases c9:cc=9
 .subst c9;have hy:s<=t:=Yx;simp;omega
 rw[aa c9];exact⟨rfl,x1⟩
open Go.ChangeShapes Go.WideShapes
structure Pu where
 lo:Int
 hi:Int
structure Pi where
 lo:Int
 hi:Int
def Rg.eta(a:Rg):(⟨a.ul,a.uh,a.sl,a.sh⟩:Rg)=a:=rfl
def rd_Rg(k:Rg->List Dt->List Dt):List Dt->List Dt
 |.z z0::.z z1::.z z2::.z z3::r=>k ⟨z0,z1,z2,z3⟩ r
 |_=>[]
def Rg.ok(a:Rg):Prop:=Ae .u64 a.ul=ZB/\Ae .u64 a.uh=ZB/\Ae .i64 a.sl=ZB/\Ae .i64 a.sh=ZB
def kRg:List CK:=[.int .u64,.int .u64,.int .i64,.int .i64]
def v_Rg(t:List VK):List VK:=.int .u64::.int .u64::.int .i64::.int .i64::t
def d_Rg(a:Rg)(t:List Dt):List Dt:=.z a.ul::.z a.uh::.z a.sl::.z a.sh::t
def dz{p:List Dt->Prop}(h:∀a:Rg,Rg.ok a->aS l fun r=>p (d_Rg a r)):aS (v_Rg l) p:=fun x0 C6 x1 Do x2 Ge x3 Gf=>h ⟨x0,x1,x2,x3⟩ ⟨C6,Do,Ge,Gf⟩
def AJ:=aI @v_Rg.eq_1 (aI @d_Rg.eq_1 (aI @rd_Rg.eq_1 (@kRg.eq_1)))
def Pu.eta(a:Pu):(⟨a.lo,a.hi⟩:Pu)=a:=rfl
def rd_Pu(k:Pu->List Dt->List Dt):List Dt->List Dt
 |.z z0::.z z1::r=>k ⟨z0,z1⟩ r
 |_=>[]
def Pu.ok(a:Pu):Prop:=Ae .u64 a.lo=ZB/\Ae .u64 a.hi=ZB
def kPu:List CK:=[.int .u64,.int .u64]
def v_Pu(t:List VK):List VK:=.int .u64::.int .u64::t
def d_Pu(a:Pu)(t:List Dt):List Dt:=.z a.lo::.z a.hi::t
def jk{p:List Dt->Prop}(h:∀a:Pu,Pu.ok a->aS l fun r=>p (d_Pu a r)):aS (v_Pu l) p:=fun x0 C6 x1 Do=>h ⟨x0,x1⟩ ⟨C6,Do⟩
def BO:=aI @v_Pu.eq_1 (aI @d_Pu.eq_1 (aI @rd_Pu.eq_1 (@kPu.eq_1)))
def Pi.eta(a:Pi):(⟨a.lo,a.hi⟩:Pi)=a:=rfl
def rd_Pi(k:Pi->List Dt->List Dt):List Dt->List Dt
 |.z z0::.z z1::r=>k ⟨z0,z1⟩ r
 |_=>[]
def Pi.ok(a:Pi):Prop:=Ae .i64 a.lo=ZB/\Ae .i64 a.hi=ZB
def kPi:List CK:=[.int .i64,.int .i64]
def v_Pi(t:List VK):List VK:=.int .i64::.int .i64::t
def d_Pi(a:Pi)(t:List Dt):List Dt:=.z a.lo::.z a.hi::t
def jl{p:List Dt->Prop}(h:∀a:Pi,Pi.ok a->aS l fun r=>p (d_Pi a r)):aS (v_Pi l) p:=fun x0 C6 x1 Do=>h ⟨x0,x1⟩ ⟨C6,Do⟩
def BN:=aI @v_Pi.eq_1 (aI @d_Pi.eq_1 (aI @rd_Pi.eq_1 (@kPi.eq_1)))
def bU:=aI Pi.eta (aI Pu.eta (Rg.eta))
def dv(k:q2)(h:p->q=q2:=by intro e;(try simp only[e,bU,-eq_self]);rfl):p->q:=fun e=>(h e).symm▸k
def aoI:List (Nat×TI):=[(2,CC),
 (39,fe),
 (46,ic),
 (183,WR),
 (185,WQ)]
def bO:∀t i,(t,i)∈aoI->TIok ZF t i:=bl B1 B1 (by kernel_rfl)
def c_uns:Cd:=⟨119,[.agg kRg],[.agg kPu],rd_Rg fun a _=>d_Pu ((⟨a.ul,a.uh⟩:Pu)) [],T0⟩
def amr:Tr:=
(.u (.vs 0 2 .nil))
def PN:c_uns.Ok ZF:=
 AU amr (v_Rg []) bO AI func119<|dz fun a ha hp U g=>by
 simp only[AJ,BO,AA,ZD]at g;simp only[amr,c_uns,AJ,BO,Ai,ZH,ZD,-eq_self,Rg.eta,g]
 .rfl
def c_sig:Cd:=⟨120,[.agg kRg],[.agg kPi],rd_Rg fun a _=>d_Pi ((⟨a.sl,a.sh⟩:Pi)) [],T0⟩
def amt:Tr:=
(.u (.vs 2 2 .nil))
def PO:c_sig.Ok ZF:=
 AU amt (v_Rg []) bO AI func120<|dz fun a ha hp U g=>by
 simp only[AJ,BN,AA,ZD]at g;simp only[amt,c_sig,AJ,BN,Ai,ZH,ZD,-eq_self,Rg.eta,g]
 .rfl
def c_umay:Cd:=⟨159,[.agg kPu],[.one .bool],rd_Pu fun a _=>[.z (AD (decide (a.lo<=a.hi)))],T0⟩
def afV:Tr:=
(.u (.j (.not (.lt (.w 1) (.w 0))) .nil))
def ata:c_umay.Ok ZF:=
 AU afV (v_Pu []) bO AI func159<|jk fun a ha hp U g=>by
 simp only[BO,AA,ZD]at g;simp only[afV,c_umay,BO,Ai,ZH,ZD,-eq_self,Pu.eta,g]
 .simp[bI]
def c_imay:Cd:=⟨160,[.agg kPi],[.one .bool],rd_Pi fun a _=>[.z (AD (decide (a.lo<=a.hi)))],T0⟩
def agt:Tr:=
(.u (.j (.not (.lt (.w 1) (.w 0))) .nil))
def atu:c_imay.Ok ZF:=
 AU agt (v_Pi []) bO AI func160<|jl fun a ha hp U g=>by
 simp only[BN,AA,ZD]at g;simp only[agt,c_imay,BN,Ai,ZH,ZD,-eq_self,Pi.eta,g]
 .simp[bI]
def c_uhas:Cd:=⟨136,[.agg kPu,.one (.int .u64)],[.one .bool],rd_Pu fun a=>rdZ fun v _=>[.z (AD ((decide (a.lo<=v)&&decide (v<=a.hi))))],T0⟩
def afW:Tr:=
(.br (.lt (.w 2) (.w 0))
 zlF
(.u (.j (.not (.lt (.w 1) (.w 2))) .nil)))
def atb:c_uhas.Ok ZF:=
 AU afW (v_Pu [.int .u64]) bO AI func136<|jk fun a ha=>fun v hv hp U g=>by
 simp only[BO,AA,ZD]at g;simp only[afW,c_uhas,BO,Ai,ZH,ZD,-eq_self,Pu.eta,g];apply aI<;>intro c0
 .simp_all [bI]
 .simp_all [bI]
def c_ihas:Cd:=⟨137,[.agg kPi,.one (.int .i64)],[.one .bool],rd_Pi fun a=>rdZ fun v _=>[.z (AD ((decide (a.lo<=v)&&decide (v<=a.hi))))],T0⟩
def agu:Tr:=
(.br (.lt (.w 2) (.w 0))
 zlF
(.u (.j (.not (.lt (.w 1) (.w 2))) .nil)))
def atv:c_ihas.Ok ZF:=
 AU agu (v_Pi [.int .i64]) bO AI func137<|jl fun a ha=>fun v hv hp U g=>by
 simp only[BN,AA,ZD]at g;simp only[agu,c_ihas,BN,Ai,ZH,ZD,-eq_self,Pi.eta,g];apply aI<;>intro c0
 .simp_all [bI]
 .simp_all [bI]
def c_umeet:Cd:=⟨161,[.agg kPu,.agg kPu],[.agg kPu],rd_Pu fun a=>rd_Pu fun b _=>d_Pu ((⟨max a.lo b.lo,min a.hi b.hi⟩:Pu)) [],T0⟩
def aaR:Tr:=
(.u (.cons (.mx (.w 0) (.w 2)) (.cons (.mn (.w 1) (.w 3)) .nil)))
def ahO:c_umeet.Ok ZF:=
 AU aaR (v_Pu (v_Pu [])) bO AI func161<|jk fun a ha=>jk fun b hb hp U g=>by
 simp only[BO,AA,ZD]at g;simp only[aaR,c_umeet,BO,Ai,ZH,ZD,-eq_self,Pu.eta,g]
 .rfl
def c_ujoin:Cd:=⟨132,[.agg kPu,.agg kPu],[.agg kPu],rd_Pu fun a=>rd_Pu fun b _=>d_Pu ((⟨min a.lo b.lo,max a.hi b.hi⟩:Pu)) [],T0⟩
def aaS:Tr:=
(.u (.cons (.mn (.w 0) (.w 2)) (.cons (.mx (.w 1) (.w 3)) .nil)))
def aqv:c_ujoin.Ok ZF:=
 AU aaS (v_Pu (v_Pu [])) bO AI func132<|jk fun a ha=>jk fun b hb hp U g=>by
 simp only[BO,AA,ZD]at g;simp only[aaS,c_ujoin,BO,Ai,ZH,ZD,-eq_self,Pu.eta,g]
 .rfl
def c_imeet:Cd:=⟨162,[.agg kPi,.agg kPi],[.agg kPi],rd_Pi fun a=>rd_Pi fun b _=>d_Pi ((⟨max a.lo b.lo,min a.hi b.hi⟩:Pi)) [],T0⟩
def aa7:Tr:=
(.u (.cons (.mx (.w 0) (.w 2)) (.cons (.mn (.w 1) (.w 3)) .nil)))
def ahY:c_imeet.Ok ZF:=
 AU aa7 (v_Pi (v_Pi [])) bO AI func162<|jl fun a ha=>jl fun b hb hp U g=>by
 simp only[BN,AA,ZD]at g;simp only[aa7,c_imeet,BN,Ai,ZH,ZD,-eq_self,Pi.eta,g]
 .rfl
def c_ijoin:Cd:=⟨133,[.agg kPi,.agg kPi],[.agg kPi],rd_Pi fun a=>rd_Pi fun b _=>d_Pi ((⟨min a.lo b.lo,max a.hi b.hi⟩:Pi)) [],T0⟩
def aa8:Tr:=
(.u (.cons (.mn (.w 0) (.w 2)) (.cons (.mx (.w 1) (.w 3)) .nil)))
def aqG:c_ijoin.Ok ZF:=
 AU aa8 (v_Pi (v_Pi [])) bO AI func133<|jl fun a ha=>jl fun b hb hp U g=>by
 simp only[BN,AA,ZD]at g;simp only[aa8,c_ijoin,BN,Ai,ZH,ZD,-eq_self,Pi.eta,g]
 .rfl
def c_of:Cd:=⟨107,[.agg kPu,.agg kPi],[.agg kRg],rd_Pu fun a=>rd_Pi fun b _=>d_Rg ((⟨a.lo,a.hi,b.lo,b.hi⟩:Rg)) [],T0⟩
def ar6:Tr:=
(.u (.vs 0 4 .nil))
def JT:c_of.Ok ZF:=
 AU ar6 (v_Pu (v_Pi [])) bO AI func107<|jk fun a ha=>jl fun b hb hp U g=>by
 simp only[BO,BN,AJ,AA,ZD]at g;simp only[ar6,c_of,BO,BN,AJ,Ai,ZH,ZD,-eq_self,Pi.eta,Pu.eta,g]
 .rfl
def c_may:Cd:=⟨117,[.agg kRg],[.one .bool],rd_Rg fun a _=>[.z (AD (AT a))],T0⟩
def amv:Tr:=
(.call 0 (kPu) (.vs 0 4 .nil) 4
(.call 2 [.bool] (.vs 4 2 .nil) 6
(.br (.s 6)
(.call 1 (kPi) (.vs 0 4 .nil) 7
(.call 3 [.bool] (.vs 7 2 .nil) 9
(.u (.j (.s 9) .nil))))
 zlF)))
def xh:c_may.Ok ZF:=
 AU amv (v_Rg []) bO (Am PN<|Am PO<|Am ata<|Am atu AI) func117<|dz fun a ha hp U g=>by
 simp only[AJ,BO,BN,AA,ZD]at g;simp only[amv,c_uns,c_sig,c_umay,c_imay,c_may,AJ,BO,BN,Ai,ZH,ZD,-eq_self,bU,g];refine dv ?_;refine dv ?_;apply aI<;>intro c0;refine dv ?_;refine dv ?_
 ·(unfold AT;simp_all;try (intros;omega))
 ·(unfold AT;simp_all;try (intros;omega))
def c_all:Cd:=⟨89,[],[.agg kRg],fun _=>d_Rg ball [],T0⟩
def amF:Tr:=
(.call 0 (kRg) (.zs [0,18446744073709551615,-9223372036854775808,9223372036854775807] .nil) 0
(.u (.vs 0 4 .nil)))
def nS:c_all.Ok ZF:=
 AU amF [] bO (Am JT AI) func89<|fun hp U g=>by
 simp only[amF,c_of,c_all,AJ,BO,BN,Ai,ZH,ZD,-eq_self,bU];refine dv ?_
 .rfl
def c_one:Cd:=⟨69,[.one (.int .u64)],[.agg kRg],rdZ fun v _=>d_Rg (Hz v) [],T0⟩
def amu:Tr:=
(.call 0 (kRg) (.cons (.w 0) (.cons (.w 0) (.cons (.F .i64 (.w 0)) (.cons (.F .i64 (.w 0)) .nil)))) 1
(.u (.vs 1 4 .nil)))
def avg:c_one.Ok ZF:=
 AU amu [.int .u64] bO (Am JT AI) func69<|fun v hv hp U g=>by
 simp only[AJ,BO,BN,AA,ZD]at g;simp only[amu,c_of,c_one,AJ,BO,BN,Ai,ZH,ZD,-eq_self,bU,g];refine dv ?_
 .simp[Hz,bX]
def c_has:Cd:=⟨100,[.agg kRg,.one (.int .u64)],[.one .bool],rd_Rg fun a=>rdZ fun v _=>[.z (AD (AF a v))],T0⟩
def amE:Tr:=
(.call 0 [.bool] (.vs 0 4 .nil) 5
(.br (.s 5)
(.call 1 (kPu) (.vs 0 4 .nil) 6
(.call 3 [.bool] (.vs 6 2 (.cons (.w 4) .nil)) 8
(.br (.s 8)
(.call 2 (kPi) (.vs 0 4 .nil) 9
(.call 4 [.bool] (.vs 9 2 (.cons (.F .i64 (.w 4)) .nil)) 11
(.u (.j (.s 11) .nil))))
 zlF)))
 zlF))
def atw:c_has.Ok ZF:=
 AU amE (v_Rg [.int .u64]) bO (Am xh<|Am PN<|Am PO<|Am atb<|Am atv AI) func100<|dz fun a ha=>fun v hv hp U g=>by
 simp only[AJ,BO,BN,AA,ZD]at g;simp only[amE,c_may,c_uns,c_sig,c_uhas,c_ihas,c_has,AJ,BO,BN,Ai,ZH,ZD,-eq_self,bU,g];refine dv ?_
 .repeat' first|apply aI<;>intro c|refine dv ?_|exact X7
def c_single:Cd:=⟨122,[.agg kRg],[.one (.int .u64),.one .bool],rd_Rg fun a _=>[.z (aF a),.z (AD (ey a))],T0⟩
def wo:Tr:=
(.br (.eq (.w 0) (.w 1))
(.call 0 [.bool] (.vs 0 4 (.cons (.w 0) .nil)) 4
(.br (.s 4)
(.u (.cons (.w 0) (.j (.tt ZB) .nil)))
(.u (.cons (.p 0) (.j (.tt ZC) .nil)))))
(.u (.cons (.p 0) (.j (.tt ZC) .nil))))
def uB:c_single.Ok ZF:=
 AU wo (v_Rg []) bO (Am atw AI) func122<|dz fun a ha hp U g=>by
 simp only[AJ,AA,ZD]at g;simp only[wo,c_has,c_single,AJ,Ai,ZH,ZD,-eq_self,bU,g];apply aI<;>intro c0;refine dv ?_;apply aI<;>intro c1
 ·(unfold aF ey;simp_all)
 ·(unfold aF ey;simp_all)
 ·(unfold aF ey;simp_all)
def c_join:Cd:=⟨86,[.agg kRg,.agg kRg],[.agg kRg],rd_Rg fun a=>rd_Rg fun b _=>d_Rg (jx a b) [],T0⟩
def agp:Tr:=
(.call 0 [.bool] (.vs 0 4 .nil) 8
(.br (.s 8)
(.call 0 [.bool] (.vs 4 4 .nil) 9
(.br (.s 9)
(.call 2 (kPu) (.vs 0 4 .nil) 10
(.call 2 (kPu) (.vs 4 4 .nil) 12
(.call 4 (kPu) (.vs 10 4 .nil) 14
(.call 3 (kPi) (.vs 0 4 .nil) 16
(.call 3 (kPi) (.vs 4 4 .nil) 18
(.call 5 (kPi) (.vs 16 4 .nil) 20
(.call 6 (kRg) (.vs 14 2 (.vs 20 2 .nil)) 22
(.u (.vs 22 4 .nil)))))))))
(.call 1 (kRg) .nil 10
(.u (.vs 10 4 .nil)))))
(.call 1 (kRg) .nil 9
(.u (.vs 9 4 .nil)))))
def atq:c_join.Ok ZF:=
 AU agp (v_Rg (v_Rg [])) bO (Am xh<|Am nS<|Am PN<|Am PO<|Am aqv<|Am aqG<|Am JT AI) func86<|dz fun a ha=>dz fun b hb hp U g=>by
 simp only[AJ,BO,BN,AA,ZD]at g;simp only[agp,c_may,c_all,c_uns,c_sig,c_ujoin,c_ijoin,c_of,c_join,AJ,BO,BN,Ai,ZH,ZD,-eq_self,bU,g];refine dv ?_;apply aI<;>intro c0;refine dv ?_;apply aI<;>intro c1;refine dv ?_;refine dv ?_;refine dv ?_;refine dv ?_;refine dv ?_;refine dv ?_;refine dv ?_
 ·(unfold jx;simp_all [na])
 refine dv ?_
 ·(unfold jx;simp_all [na])
 refine dv ?_
 ·(unfold jx;simp_all [na])
def zJ(r:Rg):(if Ba r=ZB then AG r else ball)=AG r:=by unfold AG;split<;>simp_all
def Rg.ext_iff{a b:Rg}:a=b↔a.ul=b.ul/\a.uh=b.uh/\a.sl=b.sl/\a.sh=b.sh:=by cases a;cases b;simp
def da(h:Ae .u64 x=ZB):0<=x/\x<=18446744073709551615:=by rw[bF]at h;simpa[IntKind.min,IntKind.max,YT,YW]using h
def iU(h:Ae .i64 x=ZB) : -9223372036854775808<=x/\x<=9223372036854775807:=by rw[bF]at h;simpa[IntKind.min,IntKind.max,YT,YW]using h
def Rg.wf_of{a:Rg}(h:a.ok):a.wf:=⟨da h.1,da h.2.1,iU h.2.2.1,iU h.2.2.2⟩
def ar0(h:0<=x/\x<=18446744073709551615):Ac .shr .u64 x 63=if KW x=ZB then 1 else 0:=by
 show x.fdiv (2 ^ 63)=_;rw[Int.fdiv_eq_ediv_of_nonneg _ Fn];unfold KW;split
 next hh=>have:=Ah hh;omega
 next hh=>have:¬9223372036854775808<=x:=fun e=>hh (dm e);omega
def atC{r:Rg}(w:r.wf):(Ac .shr .u64 r.ul 63==Ac .shr .u64 r.uh 63)=decide (KW r.ul=KW r.uh):=by rw[ar0 w.1,ar0 w.2.1];cases KW r.ul<;>cases KW r.uh<;>rfl
def lb{r:Rg}(w:r.wf)(h:(Ac .shr .u64 r.ul 63==Ac .shr .u64 r.uh 63)=ZB):Bb r=⟨r.ul,r.uh,max r.sl (ZG .i64 r.ul),min r.sh (ZG .i64 r.uh)⟩:=by rw[atC w,aE]at h;unfold Bb;rw[ae h,bX,bX]
def pH{r:Rg}(w:r.wf)(h:(Ac .shr .u64 r.ul 63==Ac .shr .u64 r.uh 63)=ZC):Bb r=⟨r.ul,r.uh,r.sl,r.sh⟩:=by rw[atC w,mi]at h;unfold Bb;rw[aa h]
def vd{r:Rg}(h:(decide (r.sl<0)==decide (r.sh<0))=ZB):CW r=⟨max r.ul (ZG .u64 r.sl),min r.uh (ZG .u64 r.sh),r.sl,r.sh⟩:=by unfold CW;rw[ae (eq_of_beq h)]
def PH{r:Rg}(h:(decide (r.sl<0)==decide (r.sh<0))=ZC):CW r=⟨r.ul,r.uh,r.sl,r.sh⟩:=by unfold CW;rw[aa (fun e=>by rw[e]at h;simp at h)]
def Lo:List C:=[.int .u64 (.p 0),.int .u64 (.p 0),.int .i64 (.p 0),.int .i64 (.p 0)]
def atM:Tryz.prog.eqGuardType Tryz.prog.depth 46=ZC:=by kernel_rfl
def adB:Tryz.prog.cellsOf 46=4:=by kernel_rfl
def adF:Tryz.prog.cellsOf 39=1:=by kernel_rfl
def aiQ:Tryz.prog.cellsOf 2=1:=by kernel_rfl
def au4(vs:List Value)(hv:aL vs Lo):Tryz.prog.keyLits 6 46 vs=ZA (cV vs):=by obtain⟨x0,_,rfl,g0,hv⟩:=ah hv;obtain⟨x1,_,rfl,g1,hv⟩:=ah hv;obtain⟨x2,_,rfl,g2,hv⟩:=ah hv;obtain⟨x3,_,rfl,g3,hv⟩:=ah hv;obtain rfl:=bT hv;simp[Program.keyLits,underlying46,underlying39,underlying2,adB,adF,aiQ,TS,cV,g0,g1,g2,g3]
def avU(vs:List Value)(hv:aL vs Lo):(Value.agg vs.toArray).formed ZF 46=ZB:=by obtain⟨x0,_,rfl,g0,hv⟩:=ah hv;obtain⟨x1,_,rfl,g1,hv⟩:=ah hv;obtain⟨x2,_,rfl,g2,hv⟩:=ah hv;obtain⟨x3,_,rfl,g3,hv⟩:=ah hv;obtain rfl:=bT hv;kernel_rfl
def avY(vs us:List Value)(hv:aL vs Lo)(hu:aL us Lo)(w:World):(Op.equal 46 (.agg vs.toArray) (.agg us.toArray)).run ZF w=.ok (Dh vs us) w:=iI (by kernel_rfl) avU 6 au4 vs us hv hu w
def am(k:q2)(h:p->q=q2:=by intro e;(try simp only[e,bU,-eq_self]);rfl):p->q:=fun e=>(h e).symm▸k
def aeq:List (Nat×TI):=[(2,CC),
 (3,CZ),
 (4,EK),
 (39,fe),
 (46,⟨ZB,4,(zN 4 2211),[(0,39),(1,39),(2,2),(3,2)],ZE,ZE,ZB,ZC,ZE,32,ZC,ZE,ZC,0⟩),
 (183,WR),
 (185,WQ)]
def iz:∀t i,(t,i)∈aeq->TIok ZF t i:=bl (DS (z:=Lo) ⟨avY,atM⟩ B1) B1 (by kernel_rfl)
def c_nar:Cd:=⟨129,[.agg kRg],[.agg kRg,.one .bool],rd_Rg fun a _=>d_Rg (AG a) [.z (AD (Ba a))],T0⟩
def Px:Tr:=(.call 0 [.bool] (.vs 29 4 .nil) 33
(.br (.s 33)
(.call 2 (kPu) (.vs 29 4 .nil) 34
(.call 3 (kPi) (.vs 29 4 .nil) 36
(.u (.vs 29 4 (.j (.tt ZB) .nil)))))
(.call 1 (kRg) .nil 34
(.u (.vs 34 4 (.j (.tt ZC) .nil))))))
def Pw:Tr:=(.call 0 [.bool] (.vs 31 4 .nil) 35
(.br (.s 35)
(.call 2 (kPu) (.vs 31 4 .nil) 36
(.call 3 (kPi) (.vs 31 4 .nil) 38
(.u (.vs 31 4 (.j (.tt ZB) .nil)))))
(.call 1 (kRg) .nil 36
(.u (.vs 36 4 (.j (.tt ZC) .nil))))))
def Pv:Tr:=(.call 0 [.bool] (.vs 20 4 .nil) 24
(.br (.s 24)
(.call 2 (kPu) (.vs 20 4 .nil) 25
(.call 3 (kPi) (.vs 20 4 .nil) 27
(.br (.eq (.f .shr .u64 (.w 25) (.p 63)) (.f .shr .u64 (.w 26) (.p 63)))
(.call 5 (kPi) (.vs 27 2 (.cons (.F .i64 (.w 25)) (.cons (.F .i64 (.w 26)) .nil))) 29
(.call 6 (kRg) (.vs 25 2 (.vs 29 2 .nil)) 31
 Pw))
(.call 6 (kRg) (.vs 25 4 .nil) 29
 Px))))
(.call 1 (kRg) .nil 25
(.u (.vs 25 4 (.j (.tt ZC) .nil))))))
def WW:Tr:=
(.call 0 [.bool] (.vs 0 4 .nil) 4
(.br (.s 4)
(.call 2 (kPu) (.vs 0 4 .nil) 5
(.call 3 (kPi) (.vs 0 4 .nil) 7
(.br (.eq (.f .shr .u64 (.w 5) (.p 63)) (.f .shr .u64 (.w 6) (.p 63)))
(.call 5 (kPi) (.vs 7 2 (.cons (.F .i64 (.w 5)) (.cons (.F .i64 (.w 6)) .nil))) 9
(.call 6 (kRg) (.vs 5 2 (.vs 9 2 .nil)) 11
(.call 0 [.bool] (.vs 11 4 .nil) 15
(.br (.s 15)
(.call 2 (kPu) (.vs 11 4 .nil) 16
(.call 3 (kPi) (.vs 11 4 .nil) 18
(.br (.beq (.lt (.w 18) (.p 0)) (.lt (.w 19) (.p 0)))
(.call 4 (kPu) (.vs 16 2 (.cons (.F .u64 (.w 18)) (.cons (.F .u64 (.w 19)) .nil))) 20
(.call 6 (kRg) (.vs 20 2 (.vs 18 2 .nil)) 22
(.call 0 [.bool] (.vs 22 4 .nil) 26
(.br (.s 26)
(.call 2 (kPu) (.vs 22 4 .nil) 27
(.call 3 (kPi) (.vs 22 4 .nil) 29
(.br (.eq (.f .shr .u64 (.w 27) (.p 63)) (.f .shr .u64 (.w 28) (.p 63)))
(.call 5 (kPi) (.vs 29 2 (.cons (.F .i64 (.w 27)) (.cons (.F .i64 (.w 28)) .nil))) 31
(.call 6 (kRg) (.vs 27 2 (.vs 31 2 .nil)) 33
(.call 0 [.bool] (.vs 33 4 .nil) 37
(.br (.s 37)
(.call 2 (kPu) (.vs 33 4 .nil) 38
(.call 3 (kPi) (.vs 33 4 .nil) 40
(.u (.vs 33 4 (.j (.tt ZB) .nil)))))
(.call 1 (kRg) .nil 38
(.u (.vs 38 4 (.j (.tt ZC) .nil))))))))
(.call 6 (kRg) (.vs 27 4 .nil) 31
 Pw))))
(.call 1 (kRg) .nil 27
(.u (.vs 27 4 (.j (.tt ZC) .nil))))))))
(.call 6 (kRg) (.vs 16 4 .nil) 20
 Pv))))
(.call 1 (kRg) .nil 16
(.u (.vs 16 4 (.j (.tt ZC) .nil))))))))
(.call 6 (kRg) (.vs 5 4 .nil) 9
(.call 0 [.bool] (.vs 9 4 .nil) 13
(.br (.s 13)
(.call 2 (kPu) (.vs 9 4 .nil) 14
(.call 3 (kPi) (.vs 9 4 .nil) 16
(.br (.beq (.lt (.w 16) (.p 0)) (.lt (.w 17) (.p 0)))
(.call 4 (kPu) (.vs 14 2 (.cons (.F .u64 (.w 16)) (.cons (.F .u64 (.w 17)) .nil))) 18
(.call 6 (kRg) (.vs 18 2 (.vs 16 2 .nil)) 20
 Pv))
(.call 6 (kRg) (.vs 14 4 .nil) 18
(.call 0 [.bool] (.vs 18 4 .nil) 22
(.br (.s 22)
(.call 2 (kPu) (.vs 18 4 .nil) 23
(.call 3 (kPi) (.vs 18 4 .nil) 25
(.br (.eq (.f .shr .u64 (.w 23) (.p 63)) (.f .shr .u64 (.w 24) (.p 63)))
(.call 5 (kPi) (.vs 25 2 (.cons (.F .i64 (.w 23)) (.cons (.F .i64 (.w 24)) .nil))) 27
(.call 6 (kRg) (.vs 23 2 (.vs 27 2 .nil)) 29
 Px))
(.call 6 (kRg) (.vs 23 4 .nil) 27
(.call 0 [.bool] (.vs 27 4 .nil) 31
(.br (.s 31)
(.call 2 (kPu) (.vs 27 4 .nil) 32
(.call 3 (kPi) (.vs 27 4 .nil) 34
(.u (.vs 27 4 (.j (.tt ZB) .nil)))))
(.call 1 (kRg) .nil 32
(.u (.vs 32 4 (.j (.tt ZC) .nil))))))))))
(.call 1 (kRg) .nil 23
(.u (.vs 23 4 (.j (.tt ZC) .nil))))))))))
(.call 1 (kRg) .nil 14
(.u (.vs 14 4 (.j (.tt ZC) .nil))))))))))
(.call 1 (kRg) .nil 5
(.u (.vs 5 4 (.j (.tt ZC) .nil))))))
def asa:cg aeq (FV 0 [c_may,c_all,c_uns,c_sig,c_umeet,c_imeet,c_of]) [] [] [] 200 f129 c_nar.a c_nar.r (tp c_nar.r) (v_Rg []) WW:=E4 (by kernel_rfl)
def aqD:c_nar.Ok ZF:=
 GD WW (v_Rg []) iz (Am xh<|Am nS<|Am PN<|Am PO<|Am ahO<|Am ahY<|Am JT AI) func129 EZ asa<|dz fun a ha hp U g=>by
 simp only[AJ,BO,BN,AA,ZD]at g;simp only[WW,Pv,Pw,Px,c_may,c_all,c_uns,c_sig,c_umeet,c_imeet,c_of,c_nar,AJ,BO,BN,Ai,ZH,ZD,-eq_self,bU,g];have EL:=Rg.wf_of ha;refine am ?_;apply aI<;>intro c0;refine am ?_;refine am ?_;apply aI<;>intro c1;refine am ?_;refine am ?_;refine am ?_;apply aI<;>intro c2;refine am ?_;refine am ?_;apply aI<;>intro c3;refine am ?_;refine am ?_;refine am ?_;apply aI<;>intro c4;refine am ?_;refine am ?_;apply aI<;>intro c5;refine am ?_;refine am ?_;refine am ?_;apply aI<;>intro c6;refine am ?_;refine am ?_
 ·(have s1:=lb (EL) (by exact c1);have s2:=vd (r:=Bb a) Yj;have s3:=lb (dS (dl EL)) (by rw[s2,s1];exact c5);have Aj:Ba a=ZB:=(by unfold Ba;(try rw[s3,s2,s1]);(try rw[c0]);(try rw[c2]);(try rw[c4]);(try rw[c6]);(try rfl));have BW:AG a=Bb (CW (Bb a)):=Xy;rw[Aj,BW];rw[s3,s2,s1];(try rfl))
 refine am ?_
 ·(have s1:=lb (EL) (by exact c1);have s2:=vd (r:=Bb a) Yj;have s3:=lb (dS (dl EL)) (by rw[s2,s1];exact c5);have Aj:Ba a=ZC:=(by unfold Ba;(try rw[s3,s2,s1]);(try rw[c0]);(try rw[c2]);(try rw[c4]);(try rw[c6]);(try rfl));have BW:AG a=ball:=Xy;rw[Aj,BW];(try rfl))
 refine am ?_;refine am ?_;apply aI<;>intro c7;refine am ?_;refine am ?_
 ·(have s1:=lb (EL) (by exact c1);have s2:=vd (r:=Bb a) Yj;have s3:=pH (dS (dl EL)) (by rw[s2,s1];exact c5);have Aj:Ba a=ZB:=(by unfold Ba;(try rw[s3,s2,s1]);(try rw[c0]);(try rw[c2]);(try rw[c4]);(try rw[c7]);(try rfl));have BW:AG a=Bb (CW (Bb a)):=Xy;rw[Aj,BW];rw[s3,s2,s1];(try rfl))
 refine am ?_
 .exact ai (c4.symm.trans c7) (by simp)
 refine am ?_
 ·(have s1:=lb (EL) (by exact c1);have s2:=vd (r:=Bb a) Yj;have Aj:Ba a=ZC:=(by unfold Ba;(try rw[s2,s1]);(try rw[c0]);(try rw[c2]);(try rw[c4]);(try rfl));have BW:AG a=ball:=Xy;rw[Aj,BW];(try rfl))
 refine am ?_;refine am ?_;apply aI<;>intro c8;refine am ?_;refine am ?_;apply aI<;>intro c9;refine am ?_;refine am ?_;refine am ?_;apply aI<;>intro BF;refine am ?_;refine am ?_
 ·(have s1:=lb (EL) (by exact c1);have s2:=PH (r:=Bb a) Yj;have s3:=lb (dS (dl EL)) (by rw[s2,s1];exact c9);have Aj:Ba a=ZB:=(by unfold Ba;(try rw[s3,s2,s1]);(try rw[c0]);(try rw[c2]);(try rw[c8]);(try rw[BF]);(try rfl));have BW:AG a=Bb (CW (Bb a)):=Xy;rw[Aj,BW];rw[s3,s2,s1];(try rfl))
 refine am ?_
 ·(have s1:=lb (EL) (by exact c1);have s2:=PH (r:=Bb a) Yj;have s3:=lb (dS (dl EL)) (by rw[s2,s1];exact c9);have Aj:Ba a=ZC:=(by unfold Ba;(try rw[s3,s2,s1]);(try rw[c0]);(try rw[c2]);(try rw[c8]);(try rw[BF]);(try rfl));have BW:AG a=ball:=Xy;rw[Aj,BW];(try rfl))
 refine am ?_;refine am ?_;apply aI<;>intro CF;refine am ?_;refine am ?_
 ·(have s1:=lb (EL) (by exact c1);have s2:=PH (r:=Bb a) Yj;have s3:=pH (dS (dl EL)) (by rw[s2,s1];exact c9);have Aj:Ba a=ZB:=(by unfold Ba;(try rw[s3,s2,s1]);(try rw[c0]);(try rw[c2]);(try rw[c8]);(try rw[CF]);(try rfl));have BW:AG a=Bb (CW (Bb a)):=Xy;rw[Aj,BW];rw[s3,s2,s1];(try rfl))
 refine am ?_
 .exact ai (c8.symm.trans CF) (by simp)
 refine am ?_
 .exact ai (c2.symm.trans c8) (by simp)
 refine am ?_
 ·(have s1:=lb (EL) (by exact c1);have Aj:Ba a=ZC:=(by unfold Ba;(try rw[s1]);(try rw[c0]);(try rw[c2]);(try rfl));have BW:AG a=ball:=Xy;rw[Aj,BW];(try rfl))
 refine am ?_;refine am ?_;apply aI<;>intro B9;refine am ?_;refine am ?_;apply aI<;>intro Cr;refine am ?_;refine am ?_;refine am ?_;apply aI<;>intro CG;refine am ?_;refine am ?_;apply aI<;>intro C1;refine am ?_;refine am ?_;refine am ?_;apply aI<;>intro Dk;refine am ?_;refine am ?_
 ·(have s1:=pH (EL) (by exact c1);have s2:=vd (r:=Bb a) Yk;have s3:=lb (dS (dl EL)) (by rw[s2,s1];exact C1);have Aj:Ba a=ZB:=(by unfold Ba;(try rw[s3,s2,s1]);(try rw[c0]);(try rw[B9]);(try rw[CG]);(try rw[Dk]);(try rfl));have BW:AG a=Bb (CW (Bb a)):=Xy;rw[Aj,BW];rw[s3,s2,s1];(try rfl))
 refine am ?_
 ·(have s1:=pH (EL) (by exact c1);have s2:=vd (r:=Bb a) Yk;have s3:=lb (dS (dl EL)) (by rw[s2,s1];exact C1);have Aj:Ba a=ZC:=(by unfold Ba;(try rw[s3,s2,s1]);(try rw[c0]);(try rw[B9]);(try rw[CG]);(try rw[Dk]);(try rfl));have BW:AG a=ball:=Xy;rw[Aj,BW];(try rfl))
 refine am ?_;refine am ?_;apply aI<;>intro Df;refine am ?_;refine am ?_
 ·(have s1:=pH (EL) (by exact c1);have s2:=vd (r:=Bb a) Yk;have s3:=pH (dS (dl EL)) (by rw[s2,s1];exact C1);have Aj:Ba a=ZB:=(by unfold Ba;(try rw[s3,s2,s1]);(try rw[c0]);(try rw[B9]);(try rw[CG]);(try rw[Df]);(try rfl));have BW:AG a=Bb (CW (Bb a)):=Xy;rw[Aj,BW];rw[s3,s2,s1];(try rfl))
 refine am ?_
 .exact ai (CG.symm.trans Df) (by simp)
 refine am ?_
 ·(have s1:=pH (EL) (by exact c1);have s2:=vd (r:=Bb a) Yk;have Aj:Ba a=ZC:=(by unfold Ba;(try rw[s2,s1]);(try rw[c0]);(try rw[B9]);(try rw[CG]);(try rfl));have BW:AG a=ball:=Xy;rw[Aj,BW];(try rfl))
 refine am ?_;refine am ?_;apply aI<;>intro Dg;refine am ?_;refine am ?_;apply aI<;>intro Dz;refine am ?_;refine am ?_;refine am ?_;apply aI<;>intro DA;refine am ?_;refine am ?_
 ·(have s1:=pH (EL) (by exact c1);have s2:=PH (r:=Bb a) Yk;have s3:=lb (dS (dl EL)) (by rw[s2,s1];exact Dz);have Aj:Ba a=ZB:=(by unfold Ba;(try rw[s3,s2,s1]);(try rw[c0]);(try rw[B9]);(try rw[Dg]);(try rw[DA]);(try rfl));have BW:AG a=Bb (CW (Bb a)):=Xy;rw[Aj,BW];rw[s3,s2,s1];(try rfl))
 refine am ?_
 ·(have s1:=pH (EL) (by exact c1);have s2:=PH (r:=Bb a) Yk;have s3:=lb (dS (dl EL)) (by rw[s2,s1];exact Dz);have Aj:Ba a=ZC:=(by unfold Ba;(try rw[s3,s2,s1]);(try rw[c0]);(try rw[B9]);(try rw[Dg]);(try rw[DA]);(try rfl));have BW:AG a=ball:=Xy;rw[Aj,BW];(try rfl))
 refine am ?_;refine am ?_;apply aI<;>intro EM;refine am ?_;refine am ?_
 ·(have s1:=pH (EL) (by exact c1);have s2:=PH (r:=Bb a) Yk;have s3:=pH (dS (dl EL)) (by rw[s2,s1];exact Dz);have Aj:Ba a=ZB:=(by unfold Ba;(try rw[s3,s2,s1]);(try rw[c0]);(try rw[B9]);(try rw[Dg]);(try rw[EM]);(try rfl));have BW:AG a=Bb (CW (Bb a)):=Xy;rw[Aj,BW];rw[s3,s2,s1];(try rfl))
 refine am ?_
 .exact ai (Dg.symm.trans EM) (by simp)
 refine am ?_
 .exact ai (B9.symm.trans Dg) (by simp)
 refine am ?_
 .exact ai (c0.symm.trans B9) (by simp)
 refine am ?_
 ·(have Aj:Ba a=ZC:=(by unfold Ba;(try rw[Aj]);(try rw[c0]);(try rfl));have BW:AG a=ball:=Xy;rw[Aj,BW];(try rfl))
def c_plus:Cd:=⟨177,[.one (.int .i64),.one (.int .i64)],[.one (.int .i64),.one .bool],rdZ fun a=>rdZ fun b _=>[.z (ZG .i64 (a+b)),.z (AD (decide (-9223372036854775808<=a+b/\a+b<=9223372036854775807)))],T0⟩
def af5:Tr:=
(.u (.cons (.f .add .i64 (.w 0) (.w 1)) (.j (.not (.lt (.f .and .i64 (.f .xor .i64 (.w 0) (.f .add .i64 (.w 0) (.w 1))) (.f .xor .i64 (.w 1) (.f .add .i64 (.w 0) (.w 1)))) (.p 0))) .nil)))
def atg:c_plus.Ok ZF:=
 AU af5 [.int .i64,.int .i64] iz AI func177<|fun a ha b hb hp U g=>by
 simp only[AA,ZD]at g;simp only[af5,c_plus,Ai,ZH,ZD,-eq_self,g]
 ·(have ga:=iU ha;have gb:=iU hb;simp only[Ac,<-bI,<-ag3 ga.1 ga.2 gb.1 gb.2,Go.IntWalk.i64_left])
def c_minus:Cd:=⟨178,[.one (.int .i64),.one (.int .i64)],[.one (.int .i64),.one .bool],rdZ fun a=>rdZ fun b _=>[.z (ZG .i64 (a-b)),.z (AD (decide (-9223372036854775808<=a-b/\a-b<=9223372036854775807)))],T0⟩
def aaZ:Tr:=
(.u (.cons (.f .sub .i64 (.w 0) (.w 1)) (.j (.not (.lt (.f .and .i64 (.f .xor .i64 (.w 0) (.w 1)) (.f .xor .i64 (.w 0) (.f .sub .i64 (.w 0) (.w 1)))) (.p 0))) .nil)))
def aqE:c_minus.Ok ZF:=
 AU aaZ [.int .i64,.int .i64] iz AI func178<|fun a ha b hb hp U g=>by
 simp only[AA,ZD]at g;simp only[aaZ,c_minus,Ai,ZH,ZD,-eq_self,g]
 ·(have ga:=iU ha;have gb:=iU hb;simp only[Ac,<-bI,<-ada ga.1 ga.2 gb.1 gb.2,Go.IntWalk.i64_left])
def c_nard:Cd:=⟨146,[.agg kRg],[.agg kRg],rd_Rg fun a _=>d_Rg (AG a) [],T0⟩
def af7:Tr:=
(.call 0 (kRg++[.bool]) (.vs 0 4 .nil) 4
(.u (.vs 4 4 .nil)))
def amY:c_nard.Ok ZF:=
 AU af7 (v_Rg []) iz (Am aqD AI) func146<|dz fun a ha hp U g=>by
 simp only[AJ,AA,ZD]at g;simp only[af7,c_nar,c_nard,AJ,Ai,ZH,ZD,-eq_self,bU,g];refine am ?_
 .rfl
def c_meet:Cd:=⟨121,[.agg kRg,.agg kRg],[.agg kRg,.one .bool],rd_Rg fun a=>rd_Rg fun b _=>d_Rg (jw a b) [.z (AD (fv a b))],T0⟩
def af9:Tr:=
(.call 0 [.bool] (.vs 0 4 .nil) 8
(.br (.s 8)
(.call 0 [.bool] (.vs 4 4 .nil) 9
(.br (.s 9)
(.call 2 (kPu) (.vs 0 4 .nil) 10
(.call 2 (kPu) (.vs 4 4 .nil) 12
(.call 4 (kPu) (.vs 10 4 .nil) 14
(.call 3 (kPi) (.vs 0 4 .nil) 16
(.call 3 (kPi) (.vs 4 4 .nil) 18
(.call 5 (kPi) (.vs 16 4 .nil) 20
(.call 6 (kRg) (.vs 14 2 (.vs 20 2 .nil)) 22
(.call 7 (kRg++[.bool]) (.vs 22 4 .nil) 26
(.u (.vs 26 4 (.j (.s 30) .nil)))))))))))
(.call 1 (kRg) .nil 10
(.u (.vs 10 4 (.j (.tt ZC) .nil))))))
(.call 1 (kRg) .nil 9
(.u (.vs 9 4 (.j (.tt ZC) .nil))))))
def amZ:c_meet.Ok ZF:=
 AU af9 (v_Rg (v_Rg [])) iz (Am xh<|Am nS<|Am PN<|Am PO<|Am ahO<|Am ahY<|Am JT<|Am aqD AI) func121<|dz fun a ha=>dz fun b hb hp U g=>by
 simp only[AJ,BO,BN,AA,ZD]at g;simp only[af9,c_may,c_all,c_uns,c_sig,c_umeet,c_imeet,c_of,c_nar,c_meet,AJ,BO,BN,Ai,ZH,ZD,-eq_self,bU,g];refine am ?_
 .repeat' first|apply aI<;>intro c|refine am ?_|exact Yt
def c_low:Cd:=⟨155,[.agg kRg],[.agg kRg],rd_Rg fun a _=>d_Rg (C5 a) [],T0⟩
def Py:Tr:=(.call 1 (kRg) .nil 5
(.call 2 (kRg) (.cons (.w 5) (.cons (.p 4294967295) (.vs 7 2 .nil))) 9
(.u (.vs 9 4 .nil))))
def amw:Tr:=
(.call 0 [.bool] (.vs 0 4 .nil) 4
(.br (.s 4)
(.br (.lt (.p 4294967295) (.w 1))
 Py
(.u (.vs 0 4 .nil)))
 Py))
def ath:c_low.Ok ZF:=
 AU amw (v_Rg []) iz (Am xh<|Am nS<|Am amY AI) func155<|dz fun a ha hp U g=>by
 simp only[AJ,AA,ZD]at g;simp only[amw,Py,c_may,c_all,c_nard,c_low,AJ,Ai,ZH,ZD,-eq_self,bU,g];refine am ?_;apply aI<;>intro c0;apply aI<;>intro c1;refine am ?_;refine am ?_
 ·(rw[show C5 a=AG (bu 0 4294967295)from aa (fun q=>ai (Ah c1) (cb.2 q.2))];try rfl)
 ·(rw[show C5 a=a from ae ⟨c0,cb.1 (Ab c1)⟩];try rfl)
 refine am ?_;refine am ?_
 ·(rw[show C5 a=AG (bu 0 4294967295)from aa (fun q=>by rw[c0]at q;exact ai q.1 (by simp))];try rfl)
set_option linter.unusedSectionVars false
open Go
def EO{x0 x1 x2 x3 y0 y1 y2 y3:Int}(h0:x0=y0)(h1:x1=y1)(h2:x2=y2)(h3:x3=y3):[Dt.z x0,.z x1,.z x2,.z x3]=[Dt.z y0,.z y1,.z y2,.z y3]:=by rw[h0,h1,h2,h3]
def eK{r s:Rg}(h:r=s):[Dt.z r.ul,.z r.uh,.z r.sl,.z r.sh]=[Dt.z s.ul,.z s.uh,.z s.sl,.z s.sh]:=by rw[h]
def BY(t:Bool)(a b:Rg):Rg:=
 match t with
 |false=>⟨if a.uh+b.uh<=18446744073709551615 then IntKind.u64.wrap (a.ul+b.ul)else 0,if a.uh+b.uh<=18446744073709551615 then a.uh+b.uh else 18446744073709551615,(E7 a b).sl,(E7 a b).sh⟩
 |true=>⟨if b.uh<=a.ul then IntKind.u64.wrap (a.ul-b.uh)else 0,if b.uh<=a.ul then IntKind.u64.wrap (a.uh-b.ul)else 18446744073709551615,(E6 a b).sl,(E6 a b).sh⟩
section
variable {a b:Rg}(ha:a.ok)(hb:b.ok)
def TF(h1:decide (-9223372036854775808<=a.sl+b.sl/\a.sl+b.sl<=9223372036854775807)=ZB)(h2:decide (-9223372036854775808<=a.sh+b.sh/\a.sh+b.sh<=9223372036854775807)=ZB):
  IntKind.i64.wrap (a.sl+b.sl)=(BY ZC a b).sl/\IntKind.i64.wrap (a.sh+b.sh)=(BY ZC a b).sh:=by
 have h1:=Ah h1;have h2:=Ah h2;simp only[BY,E7];rw[ae ⟨h1,h2⟩,ae ⟨h1,h2⟩,aT,aT];omega
def og(h:decide (-9223372036854775808<=a.sl+b.sl/\a.sl+b.sl<=9223372036854775807)=ZC\/decide (-9223372036854775808<=a.sh+b.sh/\a.sh+b.sh<=9223372036854775807)=ZC):
  ball.sl=(BY ZC a b).sl/\ball.sh=(BY ZC a b).sh:=by
 have hn:¬((-9223372036854775808<=a.sl+b.sl/\a.sl+b.sl<=9223372036854775807)/\(-9223372036854775808<=a.sh+b.sh/\a.sh+b.sh<=9223372036854775807)):=fun q=>by
  rcases h with h|h
  .exact Ab h q.1
  .exact Ab h q.2
 simp only[BY,E7];rw[aa hn,aa hn];exact⟨rfl,rfl⟩
def T6(h1:decide (-9223372036854775808<=a.sl-b.sh/\a.sl-b.sh<=9223372036854775807)=ZB)(h2:decide (-9223372036854775808<=a.sh-b.sl/\a.sh-b.sl<=9223372036854775807)=ZB):
  IntKind.i64.wrap (a.sl-b.sh)=(BY ZB a b).sl/\IntKind.i64.wrap (a.sh-b.sl)=(BY ZB a b).sh:=by
 have h1:=Ah h1;have h2:=Ah h2;simp only[BY,E6];rw[ae ⟨h1,h2⟩,ae ⟨h1,h2⟩,aT,aT];omega
def oC(h:decide (-9223372036854775808<=a.sl-b.sh/\a.sl-b.sh<=9223372036854775807)=ZC\/decide (-9223372036854775808<=a.sh-b.sl/\a.sh-b.sl<=9223372036854775807)=ZC):
  ball.sl=(BY ZB a b).sl/\ball.sh=(BY ZB a b).sh:=by
 have hn:¬((-9223372036854775808<=a.sl-b.sh/\a.sl-b.sh<=9223372036854775807)/\(-9223372036854775808<=a.sh-b.sl/\a.sh-b.sl<=9223372036854775807)):=fun q=>by
  rcases h with h|h
  .exact Ab h q.1
  .exact Ab h q.2
 simp only[BY,E6];rw[aa hn,aa hn];exact⟨rfl,rfl⟩
include ha hb
theorem rF(h:((a.uh+b.uh) / 18446744073709551616==0)=ZB):Ac .add .u64 a.ul b.ul=(BY ZC a b).ul/\(a.uh+b.uh) % 18446744073709551616=(BY ZC a b).uh:=by have h:=cQ.1 h;have wa:=(Rg.wf_of ha).2.1;have wb:=(Rg.wf_of hb).2.1;have hc:a.uh+b.uh<=18446744073709551615:=Fn;simp only[BY];rw[ae hc,ae hc];exact⟨rfl,by omega⟩
theorem rG(h:((a.uh+b.uh) / 18446744073709551616==0)=ZC):ball.ul=(BY ZC a b).ul/\ball.uh=(BY ZC a b).uh:=by have h:=jJ.1 h;have wa:=(Rg.wf_of ha).2.1;have wb:=(Rg.wf_of hb).2.1;have hc:¬a.uh+b.uh<=18446744073709551615:=Fn;simp only[BY];rw[aa hc,aa hc];exact⟨rfl,rfl⟩
omit ha hb
theorem sE(h:decide (a.ul<b.uh)=ZC):Ac .sub .u64 a.ul b.uh=(BY ZB a b).ul/\Ac .sub .u64 a.uh b.ul=(BY ZB a b).uh:=by have hc:b.uh<=a.ul:=cb.1 (Ab h);simp only[BY];rw[ae hc,ae hc];exact⟨rfl,rfl⟩
theorem sF(h:decide (a.ul<b.uh)=ZB):ball.ul=(BY ZB a b).ul/\ball.uh=(BY ZB a b).uh:=by have hc:¬b.uh<=a.ul:=Int.not_le.2 (Ah h);simp only[BY];rw[aa hc,aa hc];exact⟨rfl,rfl⟩
end
def fF{a b:Rg}(ma:AT a=ZB)(mb:AT b=ZB){X:Rg}(h:X=CV op a b):AG X=DZ op a b:=by unfold DZ;rw[ae ⟨ma,mb⟩,h]
def arF{a b:Rg}(ha:a.ok)(hb:b.ok)(ma:AT a=ZB)(mb:AT b=ZB):BY ZC a b=E7 a b:=by
 have wa:=Rg.wf_of ha;have wb:=Rg.wf_of hb;rw[dr]at ma mb;obtain⟨⟨a0,a1⟩,⟨a2,a3⟩,_⟩:=wa;obtain⟨⟨b0,b1⟩,⟨b2,b3⟩,_⟩:=wb;rw[Rg.ext_iff];refine⟨?_,rfl,rfl,rfl⟩;simp only[BY,E7];split
 .exact YC
 .rfl
def arE{a b:Rg}(ha:a.ok)(hb:b.ok)(ma:AT a=ZB)(mb:AT b=ZB):BY ZB a b=E6 a b:=by
 have wa:=Rg.wf_of ha;have wb:=Rg.wf_of hb;rw[dr]at ma mb;obtain⟨⟨a0,a1⟩,⟨a2,a3⟩,_⟩:=wa;obtain⟨⟨b0,b1⟩,⟨b2,b3⟩,_⟩:=wb;rw[Rg.ext_iff];refine⟨?_,?_,rfl,rfl⟩<;>simp only[BY,E6]<;>split
 .exact YC
 .rfl
 .exact YC
 .rfl
def A4(h:(x==z)=ZB):x=z:=by simpa using h
def CT(h:(x==z)=ZC):x≠z:=by simpa using h
def zv(h0:0<=m)(h1:m<=18446744073709551615):Ac .sub .u64 (Ac .shl .u64 1 (aB m.toNat)) 1=lg m:=by have hb:aB m.toNat<=64:=gE Fn;have h2:=uP h1;unfold lg at h2 ⊢;show IntKind.u64.wrap (ZG .u64 (1*2 ^ min ((aB m.toNat:Int).toNat) 64)-1)=_;rw[cY,Nat.min_eq_left hb,Int.one_mul];generalize (2:Int) ^ aB m.toNat=t at *;rw[aW,aW];omega
def ahe(x0:0<=x)(x1:x<=18446744073709551615)(y0:0<y):Ac .quo .u64 x y=x / y:=by show IntKind.u64.wrap (x.tdiv y)=_;rw[Int.tdiv_eq_ediv_of_nonneg x0,aW];have:=Xm (z:=y) x0 x1 y0;omega
def arg{b:Rg}(hb:b.ok)(h:ey b=ZB):Ac .and .u64 (aF b) 63=((Ho b:Nat):Int)/\Ho b<64:=by have wb:=Rg.wf_of hb;have e:aF b=b.ul:=YG;show bits .and .u64 (aF b) 63=_/\_;rw[e,arp _ wb.1.1 wb.1.2];unfold Ho;omega
def ahc{k:Nat}(x0:0<=x)(hk:k<64):Ac .shr .u64 x (k:Int)=x / 2 ^ k:=by show x.fdiv (2 ^ min (k:Int).toNat 64)=_;rw[cY,Nat.min_eq_left Fn,Int.fdiv_eq_ediv_of_nonneg _ (Int.le_of_lt (Int.pow_pos Fn))]
def ahd{k:Nat}(hk:k<64)(h:0<=x*2 ^ k)(h':x*2 ^ k<=18446744073709551615):Ac .shl .u64 x (k:Int)=x*2 ^ k:=by show IntKind.u64.wrap (x*2 ^ min (k:Int).toNat 64)=_;rw[cY,Nat.min_eq_left Fn,aW];omega
section
variable {op:Int}{a b:Rg}(ha:a.ok)(hb:b.ok)(ma:AT a=ZB)(mb:AT b=ZB)
include ha hb ma mb
theorem av4(h:(op==11)=ZB):AG b=DZ op a b:=fF ma mb (by rw[A4 h];simp[CV])
theorem dq_0(h:(op==0)=ZB):AG (BY (op==1) a b)=DZ op a b:=fF ma mb (by rw[A4 h];rw[show((0:Int)==1)=ZC from rfl,arF ha hb ma mb];simp[CV])
theorem dq_1(h:(op==1)=ZB):AG (BY (op==1) a b)=DZ op a b:=fF ma mb (by rw[h,A4 h,arE ha hb ma mb];simp[CV])
theorem dq_5(h:(op==5)=ZB):AG ⟨ball.ul,min a.uh b.uh,ball.sl,ball.sh⟩=DZ op a b:=fF ma mb (by rw[A4 h];simp[CV,bu,ball])
theorem asH:0<=max a.uh b.uh/\max a.uh b.uh<=18446744073709551615:=by have wa:=Rg.wf_of ha;have wb:=Rg.wf_of hb;have:=wa.2.1;have:=wb.2.1;omega
theorem dq_4(h:(op==4)=ZB):AG ⟨max a.ul b.ul,Ac .sub .u64 (Ac .shl .u64 1 (aB (max a.uh b.uh).toNat)) 1,ball.sl,ball.sh⟩=DZ op a b:=fF ma mb (by
 have:=asH ha hb ma mb;rw[A4 h,zv this.1 this.2];simp[CV,bu,ball])
theorem av5(h:(op==10)=ZB):AG ⟨ball.ul,Ac .sub .u64 (Ac .shl .u64 1 (aB (max a.uh b.uh).toNat)) 1,ball.sl,ball.sh⟩=DZ op a b:=fF ma mb (by
 have:=asH ha hb ma mb;rw[A4 h,zv this.1 this.2];simp[CV,bu,ball])
theorem dq_3(h:(op==3)=ZB)(hc:decide (0<b.ul)=ZB):AG ⟨Ac .quo .u64 a.ul b.uh,Ac .quo .u64 a.uh b.ul,ball.sl,ball.sh⟩=DZ op a b:=fF ma mb (by
 have hc:=Ah hc;have wa:=Rg.wf_of ha;rw[dr]at mb;rw[A4 h,ahe wa.1.1 wa.1.2 Fn,ahe wa.2.1.1 wa.2.1.2 hc];simp[CV,bu,ball,hc])
theorem av3(h:(op==3)=ZB)(hc:decide (0<b.ul)=ZC):AG ⟨ball.ul,a.uh,ball.sl,ball.sh⟩=DZ op a b:=fF ma mb (by
 have hc:=Ab hc;rw[A4 h];simp[CV,bu,ball,hc])
theorem dq_9(h:(op==9)=ZB)(hc:decide (0<b.ul)=ZB):AG ⟨ball.ul,min a.uh (Ac .sub .u64 b.uh 1),ball.sl,ball.sh⟩=DZ op a b:=fF ma mb (by
 have hc:=Ah hc;have wb:=Rg.wf_of hb;rw[dr]at mb;rw[A4 h,show Ac .sub .u64 b.uh 1=b.uh-1 from by show IntKind.u64.wrap (b.uh-1)=_;rw[aW];have:=wb.2.1;omega];simp[CV,bu,ball,hc])
theorem avZ(h:(op==9)=ZB)(hc:decide (0<b.ul)=ZC):AG ⟨ball.ul,a.uh,ball.sl,ball.sh⟩=DZ op a b:=fF ma mb (by
 have hc:=Ab hc;rw[A4 h];simp[CV,bu,ball,hc])
theorem dq_7(h:(op==7)=ZB)(hc:ey b=ZB):AG ⟨Ac .shr .u64 a.ul (Ac .and .u64 (aF b) 63),Ac .shr .u64 a.uh (Ac .and .u64 (aF b) 63),ball.sl,ball.sh⟩=DZ op a b:=fF ma mb (by
 have wa:=Rg.wf_of ha;obtain⟨e,e2⟩:=arg hb hc;rw[A4 h,e,ahc wa.1.1 e2,ahc wa.2.1.1 e2];simp[CV,bu,ball,hc])
theorem av0(h:(op==7)=ZB)(hc:ey b=ZC):AG ball=DZ op a b:=fF ma mb (by
 rw[A4 h];simp[CV,hc])
theorem Sg(hc:ey b=ZB):decide (64-(aB a.uh.toNat:Int)<ZG .i64 (Ac .and .u64 (aF b) 63)) = !decide (aB a.uh.toNat+Ho b<=64):=by obtain⟨e,e2⟩:=arg hb hc;rw[e,aT];rw[ao];simp;omega
theorem dq_6(h:(op==6)=ZB)(hc:ey b=ZB)(hl:decide (64-(aB a.uh.toNat:Int)<ZG .i64 (Ac .and .u64 (aF b) 63))=ZC):AG ⟨Ac .shl .u64 a.ul (Ac .and .u64 (aF b) 63),Ac .shl .u64 a.uh (Ac .and .u64 (aF b) 63),ball.sl,ball.sh⟩=DZ op a b:=fF ma mb (by
 have wa:=Rg.wf_of ha;rw[Sg ha hb ma mb hc]at hl;have B4:aB a.uh.toNat+Ho b<=64:=Yf;obtain⟨e,e2⟩:=arg hb hc;rw[dr]at ma;obtain⟨h1,h2,h3⟩:=WZ wa.1.1 ma.1 B4;rw[A4 h,e,ahd e2 h1 Fn,ahd e2 Fn h3];simp[CV,bu,ball,hc,B4])
theorem av1(h:(op==6)=ZB)(hc:ey b=ZB)(hl:decide (64-(aB a.uh.toNat:Int)<ZG .i64 (Ac .and .u64 (aF b) 63))=ZB):AG ball=DZ op a b:=fF ma mb (by
 rw[Sg ha hb ma mb hc]at hl;have B4:¬aB a.uh.toNat+Ho b<=64:=Yf;rw[A4 h];simp[CV,hc,B4])
theorem av2(h:(op==6)=ZB)(hc:ey b=ZC):AG ball=DZ op a b:=fF ma mb (by
 rw[A4 h];simp[CV,hc])
theorem dq_x(HH:(op==11)=ZC)(h0:(op==0)=ZC)(h1:(op==1)=ZC)(h5:(op==5)=ZC)(h4:(op==4)=ZC)(JH:(op==10)=ZC)(h3:(op==3)=ZC)(h9:(op==9)=ZC)(h7:(op==7)=ZC)(h6:(op==6)=ZC):AG ball=DZ op a b:=fF ma mb (by
 unfold CV;rw[aa (CT HH),aa (CT h0),aa (CT h1),aa (CT h5),aa (CT h4),aa (CT JH),aa (CT h3),aa (CT h9),aa (CT h7),aa (CT h6)])
end
def anm{a b:Rg}(h:AT a=ZC\/AT b=ZC):ball=DZ op a b:=by unfold DZ;rw[aa (fun e=>by rcases h with h|h<;>simp[h]at e)]
def dD{r s:Rg}{u:Bool}(h:r=s)(h':t=u):[Dt.z r.ul,.z r.uh,.z r.sl,.z r.sh,.z (AD t)]=[Dt.z s.ul,.z s.uh,.z s.sl,.z s.sh,.z (AD u)]:=by rw[h,h']
section
variable {cc:Int}{a b X:Rg}
def kp(c0:cc≠0)(hg:jy cc a b=ZB)(hc:Bw cc a b=ZB)(e:X=BU cc a b):AG X=C4 cc a b/\Ba X=CI cc a b:=by
 subst e;have h1:CI cc a b=Ba (BU cc a b):=by unfold CI;rw[hg,hc,aa c0];rfl
 refine⟨?_,h1.symm⟩;unfold C4;rw[h1,aa c0];cases h:Ba (BU cc a b)
 .unfold AG;rw[h];simp
 .simp
def gU(h:jy cc a b=ZC\/(cc≠0/\Bw cc a b=ZC)):ball=C4 cc a b/\ZC=CI cc a b:=by
 have h1:CI cc a b=ZC:=by
  unfold CI;rcases h with h|⟨h0,h⟩
  .rw[h];rfl
  .rw[h,aa h0];simp
 exact⟨by unfold C4;rw[h1];simp,h1.symm⟩
def atJ(hg:jy 0 a b=ZB):jw a b=C4 0 a b/\fv a b=CI 0 a b:=by
 have e:CI 0 a b=fv a b:=by unfold CI;rw[hg];rfl
 refine⟨?_,e.symm⟩;unfold C4;rw[e];cases h:fv a b
 .unfold jw;rw[h];simp
 .simp
def ce(c0:AT a=ZB)(c1:AT b=ZB)(h:0<=cc/\cc<=10):jy cc a b=ZB:=by unfold jy;rw[c0,c1,dm h.1,dm h.2];rfl
end
structure Kn where
 v:Int
 m:Int
 deriving DecidableEq
def Kn.wf(a:Kn):Prop:=(0<=a.v/\a.v<=18446744073709551615)/\(0<=a.m/\a.m<=18446744073709551615)
def kall:Kn:=⟨0,18446744073709551615⟩
def Ep(v:Int):Kn:=⟨v,0⟩
def Bz(a:Kn):Bool:=bits .and .u64 a.v a.m==0
def AX(a:Kn)(x:Int):Bool:=Bz a&&(bits .andNot .u64 x a.m==a.v)
def kj(v m:Int):Kn:=⟨bits .andNot .u64 v m,m⟩
def jv(a b:Kn):Kn:=if Bz a=ZB/\Bz b=ZB then kj a.v (bits .or .u64 (bits .or .u64 a.m b.m) (bits .xor .u64 a.v b.v))else kall
def zh(a b:Kn):Int:=bits .andNot .u64 (bits .xor .u64 a.v b.v) (bits .or .u64 a.m b.m)
def eJ(a b:Kn):Bool:=Bz a&&(Bz b&&(zh a b==0))
def ju(a b:Kn):Kn:=if eJ a b=ZB then kj (bits .or .u64 a.v b.v) (bits .and .u64 a.m b.m)else kall
def Lc(a b:Kn):Bool:=Bz a&&(Bz b&&((bits .or .u64 a.m b.m==b.m)&&(bits .andNot .u64 a.v b.m==b.v)))
def B5(a:Kn)(w:Int):Kn:=if Bz a=ZB then⟨Ap a.v w,Ap a.m w⟩else kall
def JU(a b:Kn):Kn:=kj (ZG .u64 (a.v+b.v)) (bits .or .u64 (bits .or .u64 (bits .xor .u64 (ZG .u64 (a.v+b.v)) (ZG .u64 (ZG .u64 (a.m+b.m)+ZG .u64 (a.v+b.v)))) a.m) b.m)
def Gm(a b:Kn):Kn:=kj (ZG .u64 (a.v-b.v)) (bits .or .u64 (bits .or .u64 (bits .xor .u64 (ZG .u64 (ZG .u64 (a.v-b.v)+a.m)) (ZG .u64 (ZG .u64 (a.v-b.v)-b.m))) a.m) b.m)
def O1(a b:Kn):Kn:=⟨bits .and .u64 a.v b.v,bits .andNot .u64 (bits .and .u64 (bits .or .u64 a.v a.m) (bits .or .u64 b.v b.m)) (bits .and .u64 a.v b.v)⟩
def kor(a b:Kn):Kn:=⟨bits .or .u64 a.v b.v,bits .andNot .u64 (bits .or .u64 a.m b.m) (bits .or .u64 a.v b.v)⟩
def Mn(a b:Kn):Kn:=kj (bits .xor .u64 a.v b.v) (bits .or .u64 a.m b.m)
def TO(op w:Int)(a b:Kn):Kn:=kj (BE op w a.v (bits .and .u64 b.v (w-1))) (BE op w a.m (bits .and .u64 b.v (w-1)))
def Dm(op w:Int)(a b:Kn):Kn:=
 if op=0 then JU a b else if op=1 then Gm a b else if op=4 then kor a b else if op=5 then O1 a b
 else if op=6\/op=7\/op=12 then(if(bits .and .u64 b.m (w-1)==0)=ZB then TO op w a b else kall)
 else if op=8 then Gm (Ep 0) a else if op=10 then Mn a b else if op=11 then b else kall
def ed(op w:Int)(a b:Kn):Bool:=Bz a&&(Bz b&&(decide (0<=op)&&(decide (op<=12)&&fG w)))
def Jo(op w:Int)(a b:Kn):Kn:=
 if ed op w a b=ZB then
  (if(bits .or .u64 (B5 a w).m (B5 b w).m==0)=ZB then Ep (BE op w (B5 a w).v (B5 b w).v)else B5 (Dm op w (B5 a w) (B5 b w)) w)
 else kall
def C2(w:World)(b:Nat)(x y:Value):Prop:=w.cell? ⟨b,0,ZE⟩=ZA x/\w.cell? ⟨b,1,ZE⟩=ZA y/\∀j,w.frozen? ⟨b,j,ZE⟩=ZC
def Bk(w:World)(b:Nat)(cs:Array Value)(t:TypeId):Prop:=w.heap[b]? =ZA (.cells cs t (0,0))
def Bk.lt{w:World}{t:TypeId}(h:Bk w b cs t):b<w.heap.size:=by
 rcases bC b w.heap.size with As|DC
 .exact As
 .rw[Bk,Array.getElem?_eq_none DC]at h;cases h
def Bk.ext{w:World}{t:TypeId}(h:Bk w b cs t)(hx:Ext w w'):Bk w' b cs t:=by unfold Bk at h ⊢;rw[hx.block b (Bk.lt h)];exact h
def Bk.cell{w:World}{t:TypeId}(h:Bk w b cs t)(j:Nat):w.cell? ⟨b,j,ZE⟩=cs[j]? :=cell_of_row w b j cs t (0,0) h
def Bk.free{w:World}{t:TypeId}(h:Bk w b cs t)(j:Nat):w.frozen? ⟨b,j,ZE⟩=ZC:=frozen_of_row w b j cs t h
def Bk.new{w:World}{t:TypeId}(hx:Ext (w.alloc (.cells cs t)) w'):Bk w' w.heap.size cs t:=Bk.ext (w:=w.alloc (.cells cs t)) (heap_alloc_new _ _) hx
def Bk.two{w:World}{x y:Value}{t:TypeId}(h:Bk w b #[x,y] t):C2 w b x y:=⟨h.cell 0,h.cell 1,h.free⟩
def C2.ext{w:World}{x y:Value}(h:C2 w b x y)(hx:Ext w w'):C2 w' b x y:=⟨hx.cell h.1,hx.cell h.2.1,fun j=>(Below.frozen hx (p:=⟨b,j,ZE⟩) (World.block_lt_of_cell? w ⟨b,0,ZE⟩ h.1)).trans (h.2.2 j)⟩
def C2.lt{w:World}{x y:Value}(h:C2 w b x y):b<w.heap.size:=World.block_lt_of_cell? w ⟨b,0,ZE⟩ h.1
def C2.off1{w:World}{x y:Value}(h:C2 w b x y)(c j:Nat)(u:Value)(BM:c≠b):C2 (w.setCell ⟨c,j,ZE⟩ u) b x y:=by refine⟨(World.cell?_setCell_other w ⟨c,j,ZE⟩ ⟨b,0,ZE⟩ u (fun e=>BM (congrArg Addr.block e))).trans h.1,(World.cell?_setCell_other w ⟨c,j,ZE⟩ ⟨b,1,ZE⟩ u (fun e=>BM (congrArg Addr.block e))).trans h.2.1,fun i=> ?_⟩;have:=h.2.2 i;simpa[go_sem]using this
def C2.off{w:World}{x y:Value}(h:C2 w b x y)(c:Nat)(u v:Value)(BM:c≠b):C2 ((w.setCell ⟨c,0,ZE⟩ u).setCell ⟨c,1,ZE⟩ v) b x y:=(h.off1 c 0 u BM).off1 c 1 v BM
def C2.put{w:World}{x y:Value}(h:C2 w b x y)(u v:Value):C2 ((w.setCell ⟨b,0,ZE⟩ u).setCell ⟨b,1,ZE⟩ v) b u v:=by obtain⟨h0,h1,h2⟩:=h;have e0:(w.setCell ⟨b,0,ZE⟩ u).cell? ⟨b,0,ZE⟩=ZA u:=World.cell?_setCell_same w ⟨b,0,ZE⟩ u h0;have e1:(w.setCell ⟨b,0,ZE⟩ u).cell? ⟨b,1,ZE⟩=ZA y:=(World.cell?_setCell_other w ⟨b,0,ZE⟩ ⟨b,1,ZE⟩ u (by simp)).trans h1;refine⟨(World.cell?_setCell_other _ ⟨b,1,ZE⟩ ⟨b,0,ZE⟩ v (by simp)).trans e0,World.cell?_setCell_same _ ⟨b,1,ZE⟩ v e1,fun i=> ?_⟩;have:=h2 i;simpa[go_sem]using this
def sU(x:Int):0<=ZG .u64 x/\IntKind.u64.wrap x<=18446744073709551615:=by rw[aW];omega
def iK(x y:Int):0<=bits .and .u64 x y/\bits .and .u64 x y<=18446744073709551615:=sU _
def iT(x y:Int):0<=bits .or .u64 x y/\bits .or .u64 x y<=18446744073709551615:=sU _
def rz(x y:Int):0<=bits .xor .u64 x y/\bits .xor .u64 x y<=18446744073709551615:=sU _
def ez(x y:Int):0<=bits .andNot .u64 x y/\bits .andNot .u64 x y<=18446744073709551615:=sU _
def jC:kall.wf:=by unfold Kn.wf kall;simp
def sZ(h:0<=v/\v<=18446744073709551615):(Ep v).wf:=⟨h,by simp[Ep]⟩
def eQ(h:0<=m/\m<=18446744073709551615):(kj v m).wf:=⟨ez _ _,h⟩
def kF(a b:Kn):(jv a b).wf:=by unfold jv;split;exact eQ (iT _ _);exact jC
def jB{a:Kn}(h:a.wf)(w:Int):(B5 a w).wf:=by
 unfold B5;split
 .exact⟨dk _ _ h.1.1 h.1.2,dk _ _ h.2.1 h.2.2⟩
 .exact jC
def al3{a b:Kn}(ha:a.wf)(hb:b.wf)(op w:Int):(Dm op w a b).wf:=by
 have hs:=iK b.v (w-1);unfold Dm;repeat' split
 .exact eQ (iT _ _)
 .exact eQ (iT _ _)
 .exact⟨iT _ _,ez _ _⟩
 .exact⟨iK _ _,ez _ _⟩
 .exact eQ (eG _ _ _ _ ha.2.1 ha.2.2 hs.1 hs.2)
 .exact jC
 .exact eQ (iT _ _)
 .exact eQ (iT _ _)
 .exact hb
 .exact jC
def zS{a b:Kn}(ha:a.wf)(hb:b.wf)(op w:Int):(Jo op w a b).wf:=by
 have h1:=jB ha w;have h2:=jB hb w;unfold Jo;repeat' split
 .exact sZ (eG _ _ _ _ h1.1.1 h1.1.2 h2.1.1 h2.1.2)
 .exact jB (al3 h1 h2 _ _) _
 .exact jC
def Bk.set{w:World}{t:TypeId}(h:Bk w b cs t)(j:Nat)(v:Value):Bk (w.setCell ⟨b,j,ZE⟩ v) b (cs.setIfInBounds j v) t:=heap_setCell_same w b j cs t v h
def Bk.off{w:World}{t:TypeId}(h:Bk w b cs t)(c j:Nat)(v:Value)(BM:c≠b):Bk (w.setCell ⟨c,j,ZE⟩ v) b cs t:=by unfold Bk at h ⊢;rw[heap_setCell_other w ⟨c,j,ZE⟩ b v (fun e=>BM e.symm)];exact h
def ahx:∀n:Fin 256,Go.Lib.len8 (n.val:Int)=(aB n.val:Int):=by decide +kernel
def ai2{c:Nat}(h1:2 ^ c<=n)(h2:n<2 ^ (c+1)):aB n=c+1:=by
 have h3:=gE h2;rcases bC (aB n) (c+1)with h|h
 .have h4:=qR n;have h5:2 ^ aB n<=2 ^ c:=YU Fn Fn;omega
 .exact Fn
def alQ{k:Nat}(h:2 ^ k<=n):aB n=k+aB (n / 2 ^ k):=by
 have hp:0<2 ^ k:=Nat.pow_pos Fn;have h0:n / 2 ^ k≠0:=by have:=Nat.div_pos h hp;omega
 have h1:=ai1 h0;have h2:=qR (n / 2 ^ k);obtain⟨c,hc⟩:∃c,aB (n / 2 ^ k)=c+1:=by
  have:aB (n / 2 ^ k)≠0:=by intro h;rw[h]at h2;simp at h2;omega
  exact⟨aB (n / 2 ^ k)-1,by omega⟩
 rw[hc]at h1 h2 ⊢;have e1:2 ^ (k+c)<=n:=by rw[Nat.pow_add];have:=Nat.mul_le_mul_left (2 ^ k) h1;have h3:=Nat.mul_div_le n (2 ^ k);simp only[Nat.add_sub_cancel]at this;omega
 have e2:n<2 ^ (k+c+1):=by rw[Nat.add_assoc,Nat.pow_add];have h3:=Nat.lt_mul_div_succ n hp;have:=Nat.mul_le_mul_left (2 ^ k) (show n / 2 ^ k+1<=2 ^ (c+1) by omega);omega
 rw[ai2 e1 e2];omega
def dY(h0:0<=x)(h1:x<256):Go.Lib.len8 x=(aB x.toNat:Int)/\aB x.toNat<=8:=by have:=ahx ⟨x.toNat,by omega⟩;have e:((x.toNat:Nat):Int)=x:=Fn;simp only[e]at this;exact⟨this,gE Fn⟩
def gM{i:Int}(h0:0<=i)(h1:i<256)(h2:i.toNat<Go.Lib.len8tab.size):(((Go.Lib.len8tab[i.toNat]'h2).toNat:Nat):Int)=Go.Lib.len8 i:=by simp only[Go.Lib.len8,ByteArray.getElem?_lt' _ _ h2,Option.getD_some]
def ve(h0:0<=x)(h1:x<256):ZG .u8 x=x:=by rw[show IntKind.u8.wrap x=x % 256 from by simp[IntKind.wrap,YW,YT]];omega
def fA(k:Nat)(h0:(2:Int) ^ k<=x):aB x.toNat=k+aB (x / 2 ^ k).toNat:=by
 have e:((2:Int) ^ k)=((2 ^ k:Nat):Int):=by simp
 rw[e]at h0 ⊢;obtain⟨n,rfl⟩:∃n:Nat,x=n:=⟨x.toNat,by have:=Nat.pow_pos (n:=k) (show 0<2 by omega);omega⟩
 rw[alQ (n:=(n:Int).toNat) (k:=k) Fn];congr 1
def auh(x:Int)(h0:0<=x)(h1:x<=18446744073709551615)(W w:World)(hx:Ext W w):
  Calls ZF 143 #[.int .u64 x] w fun e w'=>e=.returned (.int .i64 (aB x.toNat))/\Ext W w':=by
 obtain⟨r,hr⟩:∃r,aB x.toNat=r:=⟨_,rfl⟩
 rw[hr];have HR:=BZ hr;clear hr;by_cases c0:4294967296<=x
 .by_cases c1:65536<=(x / 4294967296)
  .by_cases c2:256<=((x / 4294967296) / 65536)
   .have q0:0<=(((x / 4294967296) / 65536) / 256):=by omega
    have q1:(((x / 4294967296) / 65536) / 256)<256:=Fn;have e4:=ve q0 q1;have E:=BZ (dY q0 q1);have l0:=fA (x:=x) 32 Fn;simp only[Int.reducePow]at l0;have L0:=BZ l0;clear l0;have l1:=fA (x:=(x / 4294967296)) 16 Fn;simp only[Int.reducePow]at l1;have L1:=BZ l1;clear l1;have l2:=fA (x:=((x / 4294967296) / 65536)) 8 Fn;simp only[Int.reducePow]at l2;have L2:=BZ l2;clear l2;have hN:Hid (r=32+(16+(8+(aB (((x / 4294967296) / 65536) / 256).toNat)))):=BZ (by rw[<-HR.out,L0.out,L1.out,L2.out])
    as_aux_lemma=>
     go_enter func143,ntmps143
     go_wp2_with fail
     all_goals
      go_ret
      refine⟨bt ?_,hx⟩;have hm:=E.out.2;rw[gM q0 q1,E.out.1,hN.out];generalize aB _=m at hm ⊢;clear q0 q1 e4 c0 c1 c2 h0 h1;simp only[wrap64];omega
   .have q0:0<=((x / 4294967296) / 65536):=by omega
    have q1:((x / 4294967296) / 65536)<256:=Fn;have e4:=ve q0 q1;have E:=BZ (dY q0 q1);have l0:=fA (x:=x) 32 Fn;simp only[Int.reducePow]at l0;have L0:=BZ l0;clear l0;have l1:=fA (x:=(x / 4294967296)) 16 Fn;simp only[Int.reducePow]at l1;have L1:=BZ l1;clear l1;have hN:Hid (r=32+(16+(aB ((x / 4294967296) / 65536).toNat))):=BZ YL
    as_aux_lemma=>
     go_enter func143,ntmps143
     go_wp2_with fail
     all_goals
      go_ret
      refine⟨bt ?_,hx⟩;have hm:=E.out.2;rw[gM q0 q1,E.out.1,hN.out];generalize aB _=m at hm ⊢;clear q0 q1 e4 c0 c1 c2 h0 h1;simp only[wrap64];omega
  .by_cases c2:256<=(x / 4294967296)
   .have q0:0<=((x / 4294967296) / 256):=by omega
    have q1:((x / 4294967296) / 256)<256:=Fn;have e4:=ve q0 q1;have E:=BZ (dY q0 q1);have l0:=fA (x:=x) 32 Fn;simp only[Int.reducePow]at l0;have L0:=BZ l0;clear l0;have l1:=fA (x:=(x / 4294967296)) 8 Fn;simp only[Int.reducePow]at l1;have L1:=BZ l1;clear l1;have hN:Hid (r=32+(8+(aB ((x / 4294967296) / 256).toNat))):=BZ YL
    as_aux_lemma=>
     go_enter func143,ntmps143
     go_wp2_with fail
     all_goals
      go_ret
      refine⟨bt ?_,hx⟩;have hm:=E.out.2;rw[gM q0 q1,E.out.1,hN.out];generalize aB _=m at hm ⊢;clear q0 q1 e4 c0 c1 c2 h0 h1;simp only[wrap64];omega
   .have q0:0<=(x / 4294967296):=by omega
    have q1:(x / 4294967296)<256:=Fn;have e4:=ve q0 q1;have E:=BZ (dY q0 q1);have l0:=fA (x:=x) 32 Fn;simp only[Int.reducePow]at l0;have L0:=BZ l0;clear l0;have hN:Hid (r=32+(aB (x / 4294967296).toNat)):=BZ (by rw[<-HR.out,L0.out])
    as_aux_lemma=>
     go_enter func143,ntmps143
     go_wp2_with fail
     all_goals
      go_ret
      refine⟨bt ?_,hx⟩;have hm:=E.out.2;rw[gM q0 q1,E.out.1,hN.out];generalize aB _=m at hm ⊢;clear q0 q1 e4 c0 c1 c2 h0 h1;simp only[wrap64];omega
 .by_cases c1:65536<=x
  .by_cases c2:256<=(x / 65536)
   .have q0:0<=((x / 65536) / 256):=by omega
    have q1:((x / 65536) / 256)<256:=Fn;have e4:=ve q0 q1;have E:=BZ (dY q0 q1);have l0:=fA (x:=x) 16 Fn;simp only[Int.reducePow]at l0;have L0:=BZ l0;clear l0;have l1:=fA (x:=(x / 65536)) 8 Fn;simp only[Int.reducePow]at l1;have L1:=BZ l1;clear l1;have hN:Hid (r=16+(8+(aB ((x / 65536) / 256).toNat))):=BZ YL
    as_aux_lemma=>
     go_enter func143,ntmps143
     go_wp2_with fail
     all_goals
      go_ret
      refine⟨bt ?_,hx⟩;have hm:=E.out.2;rw[gM q0 q1,E.out.1,hN.out];generalize aB _=m at hm ⊢;clear q0 q1 e4 c0 c1 c2 h0 h1;simp only[wrap64];omega
   .have q0:0<=(x / 65536):=by omega
    have q1:(x / 65536)<256:=Fn;have e4:=ve q0 q1;have E:=BZ (dY q0 q1);have l0:=fA (x:=x) 16 Fn;simp only[Int.reducePow]at l0;have L0:=BZ l0;clear l0;have hN:Hid (r=16+(aB (x / 65536).toNat)):=BZ (by rw[<-HR.out,L0.out])
    as_aux_lemma=>
     go_enter func143,ntmps143
     go_wp2_with fail
     all_goals
      go_ret
      refine⟨bt ?_,hx⟩;have hm:=E.out.2;rw[gM q0 q1,E.out.1,hN.out];generalize aB _=m at hm ⊢;clear q0 q1 e4 c0 c1 c2 h0 h1;simp only[wrap64];omega
  .by_cases c2:256<=x
   .have q0:0<=(x / 256):=by omega
    have q1:(x / 256)<256:=Fn;have e4:=ve q0 q1;have E:=BZ (dY q0 q1);have l0:=fA (x:=x) 8 Fn;simp only[Int.reducePow]at l0;have L0:=BZ l0;clear l0;have hN:Hid (r=8+(aB (x / 256).toNat)):=BZ (by rw[<-HR.out,L0.out])
    as_aux_lemma=>
     go_enter func143,ntmps143
     go_wp2_with fail
     all_goals
      go_ret
      refine⟨bt ?_,hx⟩;have hm:=E.out.2;rw[gM q0 q1,E.out.1,hN.out];generalize aB _=m at hm ⊢;clear q0 q1 e4 c0 c1 c2 h0 h1;simp only[wrap64];omega
   .have q0:0<=x:=by omega
    have q1:x<256:=Fn;have e4:=ve q0 q1;have E:=BZ (dY q0 q1);have hN:Hid (r=aB x.toNat):=BZ (by rw[<-HR.out])
    as_aux_lemma=>
     go_enter func143,ntmps143
     go_wp2_with fail
     all_goals
      go_ret
      refine⟨bt ?_,hx⟩;have hm:=E.out.2;rw[gM q0 q1,E.out.1,hN.out];generalize aB _=m at hm ⊢;clear q0 q1 e4 c0 c1 c2 h0 h1;simp only[wrap64];omega
def b_lz(x:Int)(h0:0<=x)(h1:x<=18446744073709551615)(W w:World)(hx:Ext W w):
  Calls ZF 145 #[.int .u64 x] w fun e w'=>e=.returned (.int .i64 (64-aB x.toNat))/\Ext W w':=by
 have hb:aB x.toNat<=64:=gE Fn;obtain⟨r,hr⟩:∃r,aB x.toNat=r:=⟨_,rfl⟩
 have HR:=BZ hr;rw[hr]at hb ⊢;clear hr
 go_enter func145,ntmps145
 go_wp2_with (first
  |(go_at_call 143;(with_reducible refine(auh x h0 h1 W _ (by assumption)).mono ?_);rintro e w' ⟨rfl,F9⟩;rw[HR.out])
  |fail)
 go_ret
 refine⟨bt ?_,by assumption⟩
 all_goals (first|(simp only[wrap64];done)|(simp only[wrap64];omega)|omega)
def Bv(op l:Int):Bool:=(decide (0<=op)&&decide (op<=12))&&fG l
def pz(h:0<=x/\x<=18446744073709551615):Ae .u64 x=ZB:=by rw[bF];simpa[IntKind.min,IntKind.max,YT,YW]using h
def ah8(h : -9223372036854775808<=x/\x<=9223372036854775807):Ae .i64 x=ZB:=by rw[bF];simpa[IntKind.min,IntKind.max,YT,YW]using h
def lu(k:q2)(h:p->q=q2:=by intro e;(try simp only[e,bU,-eq_self]);rfl):p->q:=fun e=>(h e).symm▸k
def aoH:List (Nat×TI):=[(2,CC),
 (39,fe),
 (46,ic)]
def aei:∀t i,(t,i)∈aoH->TIok ZF t i:=bl B1 B1 (by kernel_rfl)
def c_add64:Cd:=⟨179,[.one (.int .u64),.one (.int .u64),.one (.p .u64 0)],[.one (.int .u64),.one (.int .u64)],rdZ fun x=>rdZ fun y _=>[.z ((x+y) % 18446744073709551616),.z ((x+y) / 18446744073709551616)],T0⟩
def aks(x:Int)(hx:Ae .u64 x=ZB)(y:Int)(hy:Ae .u64 y=ZB):(∀w,(callFunc 179 #[.int .u64 x,.int .u64 y,.int .u64 0]).run ZF w=.ok (.value (.tuple #[.int .u64 ((x+y) % 18446744073709551616),.int .u64 ((x+y) / 18446744073709551616)])) w)/\fU (.tuple #[.int .u64 ((x+y) % 18446744073709551616),.int .u64 ((x+y) / 18446744073709551616)])=ZB:=by
 have gx:=da hx;have gy:=da hy;refine⟨fun w=> ?_,?_⟩
 .rw[run_callFunc_extern func179 (by kernel_rfl) (by kernel_rfl) (by kernel_rfl) (e:=add64Entry) (by kernel_rfl),run_add64 x y 0 gx.1 gy.1 Fn Fn];simp only[Result.andThen,Int.add_zero]
 .have h1:Ae .u64 ((x+y) % 18446744073709551616)=ZB:=pz Fn;have h2:Ae .u64 ((x+y) / 18446744073709551616)=ZB:=pz Fn;simp[fU,fh,fq,h1,h2]
def aqL:c_add64.Ok ZF:=fun hF hP=>by
 refine SmOk.pure (s:=c_add64.m _) hF rfl rfl fun xs vals w h=> ?_;obtain⟨_,_,_,rfl,⟨x0,rfl,rfl,C6⟩,h⟩:=h;obtain⟨_,_,_,rfl,⟨x1,rfl,rfl,Do⟩,h⟩:=h;obtain⟨_,_,_,rfl,⟨rfl,rfl⟩,h⟩:=h;obtain⟨rfl,rfl⟩:=h;have q:=aks x0 C6 x1 Do;refine⟨_,.inl (q.1 w),?_,fun U v0 nid j he=> ?_⟩
 .have q2:=q.2;simp[fU,fh,fq]at q2;simp[c_add64,Cd.m,tp,rdZ,rdB,rdL,ZQ,ZS,Sh.cks,ZP,YO,YP,b2i_one,gJ,q2]
 .simp only[c_add64,Cd.m,tp,rdZ,rdB,rdL,ZQ,ZS,Sh.cks,ZP,YO,YP,b2i_one,eqs,dI,dB,cD,mj,bP,ZR,ZD,and_true]at he;simp[c_add64,Cd.m,tp,rdZ,rdB,rdL,ZQ,ZS,Sh.cks,ZP,YO,YP,b2i_one,gi,bM,aH,V.den,C.den,Af,BJ,cu,E.I,E.B,he]
def c_len:Cd:=⟨143,[.one (.int .u64)],[.one (.int .i64)],rdZ fun x _=>[.z ((aB x.toNat:Int))],T0⟩
def ar4(x:Int)(hx:Ae .u64 x=ZB):(∀w,Calls ZF 143 #[.int .u64 x] w fun e w'=>e=.returned (.int .i64 ((aB x.toNat:Int)))/\Ext w w')/\fU (.int .i64 ((aB x.toNat:Int)))=ZB:=by have g:=da hx;have hb:aB x.toNat<=64:=gE Fn;have h:Ae .i64 (aB x.toNat:Int)=ZB:=ah8 Fn;exact⟨fun w=>auh x g.1 g.2 w w (Ext.refl w),h⟩
def avh:c_len.Ok ZF:=fun hF hP=>by
 refine SmOk.pure (s:=c_len.m _) hF rfl rfl fun xs vals w h=> ?_;obtain⟨_,_,_,rfl,⟨x0,rfl,rfl,C6⟩,h⟩:=h;obtain⟨rfl,rfl⟩:=h;have q:=ar4 x0 C6;refine⟨_,.inr ⟨dM func143 (by kernel_rfl) (by kernel_rfl) _ w,q.1 w⟩,?_,fun U v0 nid j he=> ?_⟩
 .have q2:=q.2;simp[fU,fh,fq]at q2;simp[c_len,Cd.m,tp,rdZ,rdB,rdL,ZQ,ZS,Sh.cks,ZP,YO,YP,b2i_one,gJ,q2]
 .simp only[c_len,Cd.m,tp,rdZ,rdB,rdL,ZQ,ZS,Sh.cks,ZP,YO,YP,b2i_one,eqs,dI,dB,cD,mj,bP,ZR,ZD,and_true]at he;simp[c_len,Cd.m,tp,rdZ,rdB,rdL,ZQ,ZS,Sh.cks,ZP,YO,YP,b2i_one,gi,bM,aH,V.den,C.den,Af,BJ,cu,E.I,E.B,he]
def c_lz:Cd:=⟨145,[.one (.int .u64)],[.one (.int .i64)],rdZ fun x _=>[.z (64-(aB x.toNat:Int))],T0⟩
def auT(x:Int)(hx:Ae .u64 x=ZB):(∀w,Calls ZF 145 #[.int .u64 x] w fun e w'=>e=.returned (.int .i64 (64-(aB x.toNat:Int)))/\Ext w w')/\fU (.int .i64 (64-(aB x.toNat:Int)))=ZB:=by have g:=da hx;have hb:aB x.toNat<=64:=gE Fn;have h:Ae .i64 (64-(aB x.toNat:Int))=ZB:=ah8 Fn;exact⟨fun w=>b_lz x g.1 g.2 w w (Ext.refl w),h⟩
def R6:c_lz.Ok ZF:=fun hF hP=>by
 refine SmOk.pure (s:=c_lz.m _) hF rfl rfl fun xs vals w h=> ?_;obtain⟨_,_,_,rfl,⟨x0,rfl,rfl,C6⟩,h⟩:=h;obtain⟨rfl,rfl⟩:=h;have q:=auT x0 C6;refine⟨_,.inr ⟨dM func145 (by kernel_rfl) (by kernel_rfl) _ w,q.1 w⟩,?_,fun U v0 nid j he=> ?_⟩
 .have q2:=q.2;simp[fU,fh,fq]at q2;simp[c_lz,Cd.m,tp,rdZ,rdB,rdL,ZQ,ZS,Sh.cks,ZP,YO,YP,b2i_one,gJ,q2]
 .simp only[c_lz,Cd.m,tp,rdZ,rdB,rdL,ZQ,ZS,Sh.cks,ZP,YO,YP,b2i_one,eqs,dI,dB,cD,mj,bP,ZR,ZD,and_true]at he;simp[c_lz,Cd.m,tp,rdZ,rdB,rdL,ZQ,ZS,Sh.cks,ZP,YO,YP,b2i_one,gi,bM,aH,V.den,C.den,Af,BJ,cu,E.I,E.B,he]
def c_sum:Cd:=⟨144,[.agg kRg,.agg kRg,.one .bool],[.agg kRg],rd_Rg fun a=>rd_Rg fun b=>rdB fun t _=>d_Rg (BY t a b) [],T0⟩
def PA:Tr:=(.u (.cons (.f .add .u64 (.w 0) (.w 4)) (.cons (.w 13) (.vs 11 2 .nil))))
def Pz:Tr:=(.u (.cons (.f .sub .u64 (.w 0) (.w 5)) (.cons (.f .sub .u64 (.w 1) (.w 4)) (.vs 11 2 .nil))))
def ams:Tr:=
(.call 0 (kRg) .nil 9
(.br (.s 8)
(.br (.lt (.w 0) (.w 5))
(.call 3 [.int .i64,.bool] (.cons (.w 2) (.cons (.w 7) .nil)) 13
(.call 3 [.int .i64,.bool] (.cons (.w 3) (.cons (.w 6) .nil)) 15
(.br (.s 14)
(.br (.s 16)
(.u (.vs 9 2 (.cons (.w 13) (.cons (.w 15) .nil))))
(.u (.vs 9 4 .nil)))
(.u (.vs 9 4 .nil)))))
(.call 3 [.int .i64,.bool] (.cons (.w 2) (.cons (.w 7) .nil)) 13
(.call 3 [.int .i64,.bool] (.cons (.w 3) (.cons (.w 6) .nil)) 15
(.br (.s 14)
(.br (.s 16)
(.u (.cons (.f .sub .u64 (.w 0) (.w 5)) (.cons (.f .sub .u64 (.w 1) (.w 4)) (.cons (.w 13) (.cons (.w 15) .nil)))))
 Pz)
 Pz))))
(.call 1 [.int .u64,.int .u64] (.cons (.w 1) (.cons (.w 5) .nil)) 13
(.br (.eq (.w 14) (.p 0))
(.call 2 [.int .i64,.bool] (.cons (.w 2) (.cons (.w 6) .nil)) 15
(.call 2 [.int .i64,.bool] (.cons (.w 3) (.cons (.w 7) .nil)) 17
(.br (.s 16)
(.br (.s 18)
(.u (.cons (.f .add .u64 (.w 0) (.w 4)) (.cons (.w 13) (.cons (.w 15) (.cons (.w 17) .nil)))))
 PA)
 PA)))
(.call 2 [.int .i64,.bool] (.cons (.w 2) (.cons (.w 6) .nil)) 15
(.call 2 [.int .i64,.bool] (.cons (.w 3) (.cons (.w 7) .nil)) 17
(.br (.s 16)
(.br (.s 18)
(.u (.vs 9 2 (.cons (.w 15) (.cons (.w 17) .nil))))
(.u (.vs 9 4 .nil)))
(.u (.vs 9 4 .nil)))))))))
def avf:c_sum.Ok ZF:=
 AU ams (v_Rg (v_Rg [.bool])) aei (Am nS<|Am aqL<|Am atg<|Am aqE AI) func144<|dz fun a ha=>dz fun b hb=>fun t hp U g=>by
 simp only[AJ,AA,ZD]at g;simp only[ams,Pz,PA,c_all,c_add64,c_plus,c_minus,c_sum,AJ,Ai,ZH,ZD,-eq_self,bU,g];refine lu ?_;apply aI<;>intro c0;apply aI<;>intro c1;refine lu ?_;refine lu ?_;apply aI<;>intro c2;apply aI<;>intro c3
 ·(subst c0;exact EO (sF c1).1 (sF c1).2 (T6 c2 c3).1 (T6 c2 c3).2)
 ·(subst c0;exact EO (sF c1).1 (sF c1).2 (oC (.inr c3)).1 (oC (.inr c3)).2)
 ·(subst c0;exact EO (sF c1).1 (sF c1).2 (oC (.inl c2)).1 (oC (.inl c2)).2)
 refine lu ?_;refine lu ?_;apply aI<;>intro c4;apply aI<;>intro c5
 ·(subst c0;exact EO (sE c1).1 (sE c1).2 (T6 c4 c5).1 (T6 c4 c5).2)
 ·(subst c0;exact EO (sE c1).1 (sE c1).2 (oC (.inr c5)).1 (oC (.inr c5)).2)
 ·(subst c0;exact EO (sE c1).1 (sE c1).2 (oC (.inl c4)).1 (oC (.inl c4)).2)
 refine lu ?_;apply aI<;>intro c6;refine lu ?_;refine lu ?_;apply aI<;>intro c7;apply aI<;>intro c8
 ·(subst c0;exact EO (rF ha hb c6).1 (rF ha hb c6).2 (TF c7 c8).1 (TF c7 c8).2)
 ·(subst c0;exact EO (rF ha hb c6).1 (rF ha hb c6).2 (og (.inr c8)).1 (og (.inr c8)).2)
 ·(subst c0;exact EO (rF ha hb c6).1 (rF ha hb c6).2 (og (.inl c7)).1 (og (.inl c7)).2)
 refine lu ?_;refine lu ?_;apply aI<;>intro c9;apply aI<;>intro BF
 ·(subst c0;exact EO (rG ha hb c6).1 (rG ha hb c6).2 (TF c9 BF).1 (TF c9 BF).2)
 ·(subst c0;exact EO (rG ha hb c6).1 (rG ha hb c6).2 (og (.inr BF)).1 (og (.inr BF)).2)
 ·(subst c0;exact EO (rG ha hb c6).1 (rG ha hb c6).2 (og (.inl c9)).1 (og (.inl c9)).2)
def cU(k:q2)(h:p->q=q2:=by intro e;(try simp only[e,bU,-eq_self]);rfl):p->q:=fun e=>(h e).symm▸k
def aoG:List (Nat×TI):=[(2,CC),
 (3,CZ),
 (38,fY),
 (39,fe),
 (46,ic),
 (96,Ud)]
def aeh:∀t i,(t,i)∈aoG->TIok ZF t i:=bl B1 B1 (by kernel_rfl)
def c_do:Cd:=⟨110,[.one (.int .i8),.agg kRg,.agg kRg],[.agg kRg],rdZ fun op=>rd_Rg fun a=>rd_Rg fun b _=>d_Rg (DZ op a b) [],T0⟩
def MG:Tr:=(.call 6 (kRg) (.vs 11 4 .nil) 18
(.u (.vs 18 4 .nil)))
def PD:E:=(.cons (.f .sub .u64 (.f .shl .u64 (.p 1) (.w 17)) (.p 1)) (.vs 13 2 .nil))
def PC:Tr:=(.call 6 (kRg) (.cons (.w 11) (.cons (.w 2) (.vs 13 2 .nil))) 18
(.u (.vs 18 4 .nil)))
def PB:Tr:=(.call 5 (kRg) (.vs 1 8 (.j (.eq (.w 0) (.p 1)) .nil)) 18
(.call 6 (kRg) (.vs 18 4 .nil) 22
(.u (.vs 22 4 .nil))))
def ar7:Tr:=
(.call 0 [.bool] (.vs 1 4 .nil) 9
(.br (.s 9)
(.call 0 [.bool] (.vs 5 4 .nil) 10
(.br (.s 10)
(.call 1 (kRg) .nil 11
(.call 2 [.int .u64,.bool] (.vs 5 4 .nil) 15
(.call 3 [.int .i64] (.cons (.mx (.w 2) (.w 6)) .nil) 17
(.br (.lt (.w 17) (.p 0))
.panic
(.br (.eq (.w 0) (.p 11))
(.call 6 (kRg) (.vs 5 4 .nil) 18
(.u (.vs 18 4 .nil)))
(.br (.eq (.w 0) (.p 0))
 PB
(.br (.eq (.w 0) (.p 1))
 PB
(.br (.eq (.w 0) (.p 5))
(.call 6 (kRg) (.cons (.w 11) (.cons (.mn (.w 2) (.w 6)) (.vs 13 2 .nil))) 18
(.u (.vs 18 4 .nil)))
(.br (.eq (.w 0) (.p 4))
(.call 6 (kRg) (.cons (.mx (.w 1) (.w 5)) PD) 18
(.u (.vs 18 4 .nil)))
(.br (.eq (.w 0) (.p 10))
(.call 6 (kRg) (.cons (.w 11) PD) 18
(.u (.vs 18 4 .nil)))
(.br (.eq (.w 0) (.p 3))
(.br (.lt (.p 0) (.w 5))
(.br (.eq (.w 6) (.p 0))
.panic
(.br (.eq (.w 5) (.p 0))
.panic
(.call 6 (kRg) (.cons (.f .quo .u64 (.w 1) (.w 6)) (.cons (.f .quo .u64 (.w 2) (.w 5)) (.vs 13 2 .nil))) 18
(.u (.vs 18 4 .nil)))))
 PC)
(.br (.eq (.w 0) (.p 9))
(.br (.lt (.p 0) (.w 5))
(.call 6 (kRg) (.cons (.w 11) (.cons (.mn (.w 2) (.f .sub .u64 (.w 6) (.p 1))) (.vs 13 2 .nil))) 18
(.u (.vs 18 4 .nil)))
 PC)
(.br (.eq (.w 0) (.p 7))
(.br (.s 16)
(.call 6 (kRg) (.cons (.f .shr .u64 (.w 1) (.f .and .u64 (.w 15) (.p 63))) (.cons (.f .shr .u64 (.w 2) (.f .and .u64 (.w 15) (.p 63))) (.vs 13 2 .nil))) 18
(.u (.vs 18 4 .nil)))
 MG)
(.br (.eq (.w 0) (.p 6))
(.br (.s 16)
(.call 4 [.int .i64] (.cons (.w 2) .nil) 18
(.br (.lt (.w 18) (.F .i64 (.f .and .u64 (.w 15) (.p 63))))
(.call 6 (kRg) (.vs 11 4 .nil) 19
(.u (.vs 19 4 .nil)))
(.call 6 (kRg) (.cons (.f .shl .u64 (.w 1) (.f .and .u64 (.w 15) (.p 63))) (.cons (.f .shl .u64 (.w 2) (.f .and .u64 (.w 15) (.p 63))) (.vs 13 2 .nil))) 19
(.u (.vs 19 4 .nil)))))
 MG)
 MG))))))))))))))
(.call 1 (kRg) .nil 11
(.u (.vs 11 4 .nil)))))
(.call 1 (kRg) .nil 10
(.u (.vs 10 4 .nil)))))
def R5:c_do.Ok ZF:=
 AU ar7 (.int .i8::v_Rg (v_Rg [])) aeh (Am xh<|Am nS<|Am uB<|Am avh<|Am R6<|Am avf<|Am amY AI) func110<|fun op Ad=>dz fun a ha=>dz fun b hb hp U g=>by
 simp only[AJ,AA,ZD]at g;simp only[ar7,PB,PC,PD,MG,c_may,c_all,c_single,c_len,c_lz,c_sum,c_nard,c_do,AJ,Ai,ZH,ZD,-eq_self,bU,g];refine cU ?_;apply aI<;>intro c0;refine cU ?_;apply aI<;>intro c1;refine cU ?_;refine cU ?_;refine cU ?_;apply aI<;>intro c2
 .exact ai (Ah c2) Fn
 apply aI<;>intro c3;refine cU ?_
 .exact eK (av4 ha hb c0 c1 c3)
 apply aI<;>intro c4;refine cU ?_;refine cU ?_
 .exact eK (dq_0 ha hb c0 c1 c4)
 apply aI<;>intro c5;refine cU ?_;refine cU ?_
 .exact eK (dq_1 ha hb c0 c1 c5)
 apply aI<;>intro c6;refine cU ?_
 .exact eK (dq_5 ha hb c0 c1 c6)
 apply aI<;>intro c7;refine cU ?_
 .exact eK (dq_4 ha hb c0 c1 c7)
 apply aI<;>intro c8;refine cU ?_
 .exact eK (av5 ha hb c0 c1 c8)
 apply aI<;>intro c9;apply aI<;>intro BF;apply aI<;>intro CF
 ·(have hm:=(dr b).1 c1;have h1:=Ah BF;have h2:=A4 CF;omega)
 apply aI<;>intro B9
 ·(have hm:=(dr b).1 c1;have h1:=Ah BF;have h2:=A4 B9;omega)
 refine cU ?_
 .exact eK (dq_3 ha hb c0 c1 c9 BF)
 refine cU ?_
 .exact eK (av3 ha hb c0 c1 c9 BF)
 apply aI<;>intro Cr;apply aI<;>intro CG;refine cU ?_
 .exact eK (dq_9 ha hb c0 c1 Cr CG)
 refine cU ?_
 .exact eK (avZ ha hb c0 c1 Cr CG)
 apply aI<;>intro C1;apply aI<;>intro Dk;refine cU ?_
 .exact eK (dq_7 ha hb c0 c1 C1 Dk)
 refine cU ?_
 .exact eK (av0 ha hb c0 c1 C1 Dk)
 apply aI<;>intro Df;apply aI<;>intro Dg;refine cU ?_;apply aI<;>intro Dz;refine cU ?_
 .exact eK (av1 ha hb c0 c1 Df Dg Dz)
 refine cU ?_
 .exact eK (dq_6 ha hb c0 c1 Df Dg Dz)
 refine cU ?_
 .exact eK (av2 ha hb c0 c1 Df Dg)
 refine cU ?_
 .exact eK (dq_x ha hb c0 c1 c3 c4 c5 c6 c7 c8 c9 Cr C1 Df)
 refine cU ?_
 .exact eK (anm (.inr c1))
 refine cU ?_
 .exact eK (anm (.inl c0))
section
variable {a b:Rg}(ha:a.ok)(hb:b.ok)
include ha hb
theorem avE(h:(!(((2:Int)==2)&&(b.ul==18446744073709551615)))=ZC):Bw 2 a b=ZC:=by have h2:b.ul=18446744073709551615:=Xx;simp[Bw,h2]
theorem avM(h:(!(((2:Int)==2)&&(b.ul==18446744073709551615)))=ZB):Bw 2 a b=ZB:=by have h2:b.ul≠18446744073709551615:=Xx;simp[Bw,h2]
theorem avz(h:(!(((2:Int)==2)&&(b.ul==18446744073709551615)))=ZB):(⟨if((2:Int)==2)=ZB/\(b.ul==18446744073709551615)=ZB then a.ul else max a.ul (if((2:Int)==2)=ZB then IntKind.u64.wrap (b.ul+1)else b.ul),a.uh,a.sl,a.sh⟩:Rg)=BU 2 a b:=by have h2:b.ul≠18446744073709551615:=Xx;have wa:=Rg.wf_of ha;have wb:=Rg.wf_of hb;obtain⟨⟨a0,a1⟩,⟨a2,a3⟩,⟨a4,a5⟩,a6,a7⟩:=wa;obtain⟨⟨b0,b1⟩,⟨b2,b3⟩,⟨b4,b5⟩,b6,b7⟩:=wb;have h3:ZG .u64 (b.ul+1)=b.ul+1:=YC;simp[BU,Rg.ext_iff,h2,h3]
theorem avL(h:(!(((3:Int)==2)&&(b.ul==18446744073709551615)))=ZB):Bw 3 a b=ZB:=by simp[Bw]
theorem avy(h:(!(((3:Int)==2)&&(b.ul==18446744073709551615)))=ZB):(⟨if((3:Int)==2)=ZB/\(b.ul==18446744073709551615)=ZB then a.ul else max a.ul (if((3:Int)==2)=ZB then IntKind.u64.wrap (b.ul+1)else b.ul),a.uh,a.sl,a.sh⟩:Rg)=BU 3 a b:=by simp[BU,Rg.ext_iff]
theorem avD(h:(!(((4:Int)==4)&&(b.uh==0)))=ZC):Bw 4 a b=ZC:=by have h2:b.uh=0:=Xx;simp[Bw,h2]
theorem avK(h:(!(((4:Int)==4)&&(b.uh==0)))=ZB):Bw 4 a b=ZB:=by have h2:b.uh≠0:=Xx;simp[Bw,h2]
theorem avx(h:(!(((4:Int)==4)&&(b.uh==0)))=ZB):(⟨a.ul,if((4:Int)==4)=ZB/\(b.uh==0)=ZB then a.uh else min a.uh (if((4:Int)==4)=ZB then IntKind.u64.wrap (b.uh-1)else b.uh),a.sl,a.sh⟩:Rg)=BU 4 a b:=by have h2:b.uh≠0:=Xx;have wa:=Rg.wf_of ha;have wb:=Rg.wf_of hb;obtain⟨⟨a0,a1⟩,⟨a2,a3⟩,⟨a4,a5⟩,a6,a7⟩:=wa;obtain⟨⟨b0,b1⟩,⟨b2,b3⟩,⟨b4,b5⟩,b6,b7⟩:=wb;have h3:ZG .u64 (b.uh-1)=b.uh-1:=YC;simp[BU,Rg.ext_iff,h2,h3]
theorem avJ(h:(!(((5:Int)==4)&&(b.uh==0)))=ZB):Bw 5 a b=ZB:=by simp[Bw]
theorem avw(h:(!(((5:Int)==4)&&(b.uh==0)))=ZB):(⟨a.ul,if((5:Int)==4)=ZB/\(b.uh==0)=ZB then a.uh else min a.uh (if((5:Int)==4)=ZB then IntKind.u64.wrap (b.uh-1)else b.uh),a.sl,a.sh⟩:Rg)=BU 5 a b:=by simp[BU,Rg.ext_iff]
theorem avC(h:(!(((6:Int)==6)&&(b.sl==9223372036854775807)))=ZC):Bw 6 a b=ZC:=by have h2:b.sl=9223372036854775807:=Xx;simp[Bw,h2]
theorem avI(h:(!(((6:Int)==6)&&(b.sl==9223372036854775807)))=ZB):Bw 6 a b=ZB:=by have h2:b.sl≠9223372036854775807:=Xx;simp[Bw,h2]
theorem avv(h:(!(((6:Int)==6)&&(b.sl==9223372036854775807)))=ZB):(⟨a.ul,a.uh,if((6:Int)==6)=ZB/\(b.sl==9223372036854775807)=ZB then a.sl else max a.sl (if((6:Int)==6)=ZB then IntKind.i64.wrap (b.sl+1)else b.sl),a.sh⟩:Rg)=BU 6 a b:=by
 have h2:b.sl≠9223372036854775807:=Xx;have wa:=Rg.wf_of ha;have wb:=Rg.wf_of hb;obtain⟨⟨a0,a1⟩,⟨a2,a3⟩,⟨a4,a5⟩,a6,a7⟩:=wa;obtain⟨⟨b0,b1⟩,⟨b2,b3⟩,⟨b4,b5⟩,b6,b7⟩:=wb;have h3:ZG .i64 (b.sl+1)=b.sl+1:=by rw[aT];omega
 simp[BU,Rg.ext_iff,h2,h3]
theorem avH(h:(!(((7:Int)==6)&&(b.sl==9223372036854775807)))=ZB):Bw 7 a b=ZB:=by simp[Bw]
theorem avu(h:(!(((7:Int)==6)&&(b.sl==9223372036854775807)))=ZB):(⟨a.ul,a.uh,if((7:Int)==6)=ZB/\(b.sl==9223372036854775807)=ZB then a.sl else max a.sl (if((7:Int)==6)=ZB then IntKind.i64.wrap (b.sl+1)else b.sl),a.sh⟩:Rg)=BU 7 a b:=by simp[BU,Rg.ext_iff]
theorem avB(h:(!(((8:Int)==8)&&(b.sh==(-9223372036854775808))))=ZC):Bw 8 a b=ZC:=by have h2:b.sh=(-9223372036854775808):=Xx;simp[Bw,h2]
theorem avG(h:(!(((8:Int)==8)&&(b.sh==(-9223372036854775808))))=ZB):Bw 8 a b=ZB:=by have h2:b.sh≠(-9223372036854775808):=Xx;simp[Bw,h2]
theorem avt(h:(!(((8:Int)==8)&&(b.sh==(-9223372036854775808))))=ZB):(⟨a.ul,a.uh,a.sl,if((8:Int)==8)=ZB/\(b.sh==(-9223372036854775808))=ZB then a.sh else min a.sh (if((8:Int)==8)=ZB then IntKind.i64.wrap (b.sh-1)else b.sh)⟩:Rg)=BU 8 a b:=by
 have h2:b.sh≠(-9223372036854775808):=Xx;have wa:=Rg.wf_of ha;have wb:=Rg.wf_of hb;obtain⟨⟨a0,a1⟩,⟨a2,a3⟩,⟨a4,a5⟩,a6,a7⟩:=wa;obtain⟨⟨b0,b1⟩,⟨b2,b3⟩,⟨b4,b5⟩,b6,b7⟩:=wb;have h3:ZG .i64 (b.sh-1)=b.sh-1:=by rw[aT];omega
 simp[BU,Rg.ext_iff,h2,h3]
theorem avF(h:(!(((9:Int)==8)&&(b.sh==(-9223372036854775808))))=ZB):Bw 9 a b=ZB:=by simp[Bw]
theorem avs(h:(!(((9:Int)==8)&&(b.sh==(-9223372036854775808))))=ZB):(⟨a.ul,a.uh,a.sl,if((9:Int)==8)=ZB/\(b.sh==(-9223372036854775808))=ZB then a.sh else min a.sh (if((9:Int)==8)=ZB then IntKind.i64.wrap (b.sh-1)else b.sh)⟩:Rg)=BU 9 a b:=by simp[BU,Rg.ext_iff]
theorem atI:Bw 10 a b=ZB:=by simp[Bw]
theorem atF:a=BU 10 a b:=by simp[BU]
theorem atH(h:ey b=ZC):Bw 1 a b=ZB:=by simp[Bw,h]
theorem atE(h:ey b=ZC):a=BU 1 a b:=by simp[BU,h]
theorem atG(h:ey b=ZB)(hu:(!((a.ul==aF b)&&(a.uh==aF b)))=ZC\/(!((a.sl==ZG .i64 (aF b))&&(a.sh==ZG .i64 (aF b))))=ZC):Bw 1 a b=ZC:=by
 have hs:aF b=b.ul:=YG;have ht:ZG .i64 b.ul=B0 b.ul:=(bX _).symm;rw[hs,ht]at hu;simp only[Bw,h,bm];rcases hu with hu|hu
 .simp at hu;simp[hu]
 .simp at hu;simp[hu]
theorem avN(h:ey b=ZB)(hu:(!((a.ul==aF b)&&(a.uh==aF b)))=ZB)(hv:(!((a.sl==ZG .i64 (aF b))&&(a.sh==ZG .i64 (aF b))))=ZB):Bw 1 a b=ZB:=by have hs:aF b=b.ul:=YG;have ht:ZG .i64 b.ul=B0 b.ul:=(bX _).symm;rw[hs]at hu;rw[hs,ht]at hv;simp only[Bw,h,bm];simp at hu hv ⊢;exact⟨hu,hv⟩
theorem avA(ma:AT a=ZB)(h:ey b=ZB)(hu:(!((a.ul==aF b)&&(a.uh==aF b)))=ZB)(hv:(!((a.sl==ZG .i64 (aF b))&&(a.sh==ZG .i64 (aF b))))=ZB):(⟨if(a.ul==aF b)=ZB/\(a.uh==aF b)=ZC then IntKind.u64.wrap (a.ul+1)else a.ul,if(a.ul==aF b)=ZC/\(a.uh==aF b)=ZB then IntKind.u64.wrap (a.uh-1)else a.uh,if(a.sl==ZG .i64 (aF b))=ZB/\(a.sh==ZG .i64 (aF b))=ZC then IntKind.i64.wrap (a.sl+1)else a.sl,if(a.sl==ZG .i64 (aF b))=ZC/\(a.sh==ZG .i64 (aF b))=ZB then IntKind.i64.wrap (a.sh-1)else a.sh⟩:Rg)=BU 1 a b:=by have hs:aF b=b.ul:=YG;have ht:ZG .i64 b.ul=B0 b.ul:=(bX _).symm;rw[hs]at hu;rw[hs,ht]at hv;rw[hs,ht];have wa:=Rg.wf_of ha;have wb:=Rg.wf_of hb;obtain⟨⟨a0,a1⟩,⟨a2,a3⟩,⟨a4,a5⟩,a6,a7⟩:=wa;obtain⟨⟨b0,b1⟩,⟨b2,b3⟩,⟨b4,b5⟩,b6,b7⟩:=wb;have sb:=ge b.ul;rw[dr]at ma;simp only[BU,h,bm,Rg.ext_iff];generalize B0 b.ul=t at *;simp only[ZO,Bool.and_eq_false_iff,jJ,ne_eq]at hu hv;simp only[cQ,jJ,ne_eq,aW,aT];refine⟨?_,?_,?_,?_⟩<;>(split<;>(try split)<;>omega)
end
def aA(k:q2)(h:p->q=q2:=by intro e;(try simp only[e,bU,-eq_self]);rfl):p->q:=fun e=>(h e).symm▸k
def aep:List (Nat×TI):=[(2,CC),
 (38,fY),
 (39,fe),
 (46,ic),
 (183,WR),
 (185,WQ)]
def fV:∀t i,(t,i)∈aep->TIok ZF t i:=bl B1 B1 (by kernel_rfl)
def c_bits:Cd:=⟨108,[.one (.int .i8),.one (.int .i8),.one (.int .u64),.one (.int .u64)],[.one (.int .u64),.one (.int .i64)],rdZ fun op=>rdZ fun l=>rdZ fun x=>rdZ fun y _=>[.z (if Bv op l=ZB then BE op l x y else 0),.z (if Bv op l=ZB then 0 else 2)],T0⟩
def afA(op:Int)(Ad:Ae .i8 op=ZB)(l:Int)(hl:Ae .i8 l=ZB)(x:Int)(hx:Ae .u64 x=ZB)(y:Int)(hy:Ae .u64 y=ZB):(∀w,Calls ZF 108 #[.int .i8 op,.int .i8 l,.int .u64 x,.int .u64 y] w fun e w'=>e=.returned (.tuple #[.int .u64 (if Bv op l=ZB then BE op l x y else 0),.int .i64 (if Bv op l=ZB then 0 else 2)])/\Ext w w')/\fU (.tuple #[.int .u64 (if Bv op l=ZB then BE op l x y else 0),.int .i64 (if Bv op l=ZB then 0 else 2)])=ZB:=by
 have gx:=da hx;have gy:=da hy;cases hk:Bv op l
 .refine⟨fun w=>(at3 op l x y w ?_).mono ?_,by simp[fU,fh,fq];decide⟩
  .unfold Bv at hk;rw[Bool.and_eq_false_iff,Bool.and_eq_false_iff]at hk;rcases hk with(hk|hk)|hk
   .have:=Ab hk;simp;omega
   .have:=Ab hk;simp;omega
   .rw[hk];simp
  .rintro e w' ⟨rfl,rfl⟩;exact⟨by simp,Ext.refl _⟩
 .unfold Bv at hk;simp only[ne,aE]at hk;have hz:=pz (eG op l x y gx.1 gx.2 gy.1 gy.2);refine⟨fun w=>(at4 op l x y w gx.1 gx.2 gy.1 gy.2 hk.1.1 hk.1.2 hk.2).mono ?_,by simp[fU,fh,fq,hz];decide⟩;rintro e w' ⟨rfl,hx⟩;exact⟨by simp,hx⟩
def aty:c_bits.Ok ZF:=fun hF hP=>by
 refine SmOk.pure (s:=c_bits.m _) hF rfl rfl fun xs vals w h=> ?_;obtain⟨_,_,_,rfl,⟨x0,rfl,rfl,C6⟩,h⟩:=h;obtain⟨_,_,_,rfl,⟨x1,rfl,rfl,Do⟩,h⟩:=h;obtain⟨_,_,_,rfl,⟨x2,rfl,rfl,Ge⟩,h⟩:=h;obtain⟨_,_,_,rfl,⟨x3,rfl,rfl,Gf⟩,h⟩:=h;obtain⟨rfl,rfl⟩:=h;have q:=afA x0 C6 x1 Do x2 Ge x3 Gf;refine⟨_,.inr ⟨dM func108 (by kernel_rfl) (by kernel_rfl) _ w,q.1 w⟩,?_,fun U v0 nid j he=> ?_⟩
 .have q2:=q.2;simp[fU,fh,fq]at q2;simp[c_bits,Cd.m,tp,rdZ,rdB,rdL,ZQ,ZS,Sh.cks,ZP,YO,YP,b2i_one,gJ,q2]
 .simp only[c_bits,Cd.m,tp,rdZ,rdB,rdL,ZQ,ZS,Sh.cks,ZP,YO,YP,b2i_one,eqs,dI,dB,cD,mj,bP,ZR,ZD,and_true]at he;simp[c_bits,Cd.m,tp,rdZ,rdB,rdL,ZQ,ZS,Sh.cks,ZP,YO,YP,b2i_one,gi,bM,aH,V.den,C.den,Af,BJ,cu,E.I,E.B,he]
def c_uwo:Cd:=⟨123,[.agg kPu,.one (.int .u64)],[.agg kPu,.one .bool],rd_Pu fun a=>rdZ fun v _=>d_Pu ((⟨if(a.lo==v)=ZB/\(a.hi==v)=ZC then IntKind.u64.wrap (a.lo+1)else a.lo,if(a.lo==v)=ZC/\(a.hi==v)=ZB then IntKind.u64.wrap (a.hi-1)else a.hi⟩:Pu)) [.z (AD ((!((a.lo==v)&&(a.hi==v)))))],T0⟩
def amq:Tr:=
(.br (.eq (.w 0) (.w 2))
(.br (.eq (.w 1) (.w 2))
(.u (.vs 0 2 (.j (.tt ZC) .nil)))
(.u (.cons (.f .add .u64 (.w 0) (.p 1)) (.cons (.w 1) (.j (.tt ZB) .nil)))))
(.br (.eq (.w 1) (.w 2))
(.u (.cons (.w 0) (.cons (.f .sub .u64 (.w 1) (.p 1)) (.j (.tt ZB) .nil))))
(.u (.vs 0 2 (.j (.tt ZB) .nil)))))
def ave:c_uwo.Ok ZF:=
 AU amq (v_Pu [.int .u64]) fV AI func123<|jk fun a ha=>fun v hv hp U g=>by
 simp only[BO,AA,ZD]at g;simp only[amq,c_uwo,BO,Ai,ZH,ZD,-eq_self,Pu.eta,g]
 .repeat' first|apply aI<;>intro c|exact XA
def c_iwo:Cd:=⟨124,[.agg kPi,.one (.int .i64)],[.agg kPi,.one .bool],rd_Pi fun a=>rdZ fun v _=>d_Pi ((⟨if(a.lo==v)=ZB/\(a.hi==v)=ZC then IntKind.i64.wrap (a.lo+1)else a.lo,if(a.lo==v)=ZC/\(a.hi==v)=ZB then IntKind.i64.wrap (a.hi-1)else a.hi⟩:Pi)) [.z (AD ((!((a.lo==v)&&(a.hi==v)))))],T0⟩
def amA:Tr:=
(.br (.eq (.w 0) (.w 2))
(.br (.eq (.w 1) (.w 2))
(.u (.vs 0 2 (.j (.tt ZC) .nil)))
(.u (.cons (.f .add .i64 (.w 0) (.p 1)) (.cons (.w 1) (.j (.tt ZB) .nil)))))
(.br (.eq (.w 1) (.w 2))
(.u (.cons (.w 0) (.cons (.f .sub .i64 (.w 1) (.p 1)) (.j (.tt ZB) .nil))))
(.u (.vs 0 2 (.j (.tt ZB) .nil)))))
def avl:c_iwo.Ok ZF:=
 AU amA (v_Pi [.int .i64]) fV AI func124<|jl fun a ha=>fun v hv hp U g=>by
 simp only[BN,AA,ZD]at g;simp only[amA,c_iwo,BN,Ai,ZH,ZD,-eq_self,Pi.eta,g]
 .repeat' first|apply aI<;>intro c|exact XA
def c_uabove:Cd:=⟨125,[.agg kPu,.agg kPu,.one .bool,.one (.int .u64)],[.agg kPu,.one .bool],rd_Pu fun a=>rd_Pu fun b=>rdB fun t=>rdZ fun m _=>d_Pu ((⟨if t=ZB/\(b.lo==m)=ZB then a.lo else max a.lo (if t=ZB then IntKind.u64.wrap (b.lo+1)else b.lo),a.hi⟩:Pu)) [.z (AD ((!(t&&(b.lo==m)))))],T0⟩
def vU:Tr:=
(.br (.s 4)
(.br (.eq (.w 2) (.w 5))
(.u (.vs 0 2 (.j (.tt ZC) .nil)))
(.u (.cons (.mx (.w 0) (.f .add .u64 (.w 2) (.p 1))) (.cons (.w 1) (.j (.tt ZB) .nil)))))
(.u (.cons (.mx (.w 0) (.w 2)) (.cons (.w 1) (.j (.tt ZB) .nil)))))
def akV:c_uabove.Ok ZF:=
 AU vU (v_Pu (v_Pu [.bool,.int .u64])) fV AI func125<|jk fun a ha=>jk fun b hb=>fun t m hm hp U g=>by
 simp only[BO,AA,ZD]at g;simp only[vU,c_uabove,BO,Ai,ZH,ZD,-eq_self,Pu.eta,g]
 .repeat' first|apply aI<;>intro c|exact XA
def c_ubelow:Cd:=⟨126,[.agg kPu,.agg kPu,.one .bool,.one (.int .u64)],[.agg kPu,.one .bool],rd_Pu fun a=>rd_Pu fun b=>rdB fun t=>rdZ fun m _=>d_Pu ((⟨a.lo,if t=ZB/\(b.hi==m)=ZB then a.hi else min a.hi (if t=ZB then IntKind.u64.wrap (b.hi-1)else b.hi)⟩:Pu)) [.z (AD ((!(t&&(b.hi==m)))))],T0⟩
def vT:Tr:=
(.br (.s 4)
(.br (.eq (.w 3) (.w 5))
(.u (.vs 0 2 (.j (.tt ZC) .nil)))
(.u (.cons (.w 0) (.cons (.mn (.w 1) (.f .sub .u64 (.w 3) (.p 1))) (.j (.tt ZB) .nil)))))
(.u (.cons (.w 0) (.cons (.mn (.w 1) (.w 3)) (.j (.tt ZB) .nil)))))
def akU:c_ubelow.Ok ZF:=
 AU vT (v_Pu (v_Pu [.bool,.int .u64])) fV AI func126<|jk fun a ha=>jk fun b hb=>fun t m hm hp U g=>by
 simp only[BO,AA,ZD]at g;simp only[vT,c_ubelow,BO,Ai,ZH,ZD,-eq_self,Pu.eta,g]
 .repeat' first|apply aI<;>intro c|exact XA
def c_iabove:Cd:=⟨127,[.agg kPi,.agg kPi,.one .bool,.one (.int .i64)],[.agg kPi,.one .bool],rd_Pi fun a=>rd_Pi fun b=>rdB fun t=>rdZ fun m _=>d_Pi ((⟨if t=ZB/\(b.lo==m)=ZB then a.lo else max a.lo (if t=ZB then IntKind.i64.wrap (b.lo+1)else b.lo),a.hi⟩:Pi)) [.z (AD ((!(t&&(b.lo==m)))))],T0⟩
def wu:Tr:=
(.br (.s 4)
(.br (.eq (.w 2) (.w 5))
(.u (.vs 0 2 (.j (.tt ZC) .nil)))
(.u (.cons (.mx (.w 0) (.f .add .i64 (.w 2) (.p 1))) (.cons (.w 1) (.j (.tt ZB) .nil)))))
(.u (.cons (.mx (.w 0) (.w 2)) (.cons (.w 1) (.j (.tt ZB) .nil)))))
def ali:c_iabove.Ok ZF:=
 AU wu (v_Pi (v_Pi [.bool,.int .i64])) fV AI func127<|jl fun a ha=>jl fun b hb=>fun t m hm hp U g=>by
 simp only[BN,AA,ZD]at g;simp only[wu,c_iabove,BN,Ai,ZH,ZD,-eq_self,Pi.eta,g]
 .repeat' first|apply aI<;>intro c|exact XA
def c_ibelow:Cd:=⟨128,[.agg kPi,.agg kPi,.one .bool,.one (.int .i64)],[.agg kPi,.one .bool],rd_Pi fun a=>rd_Pi fun b=>rdB fun t=>rdZ fun m _=>d_Pi ((⟨a.lo,if t=ZB/\(b.hi==m)=ZB then a.hi else min a.hi (if t=ZB then IntKind.i64.wrap (b.hi-1)else b.hi)⟩:Pi)) [.z (AD ((!(t&&(b.hi==m)))))],T0⟩
def wt:Tr:=
(.br (.s 4)
(.br (.eq (.w 3) (.w 5))
(.u (.vs 0 2 (.j (.tt ZC) .nil)))
(.u (.cons (.w 0) (.cons (.mn (.w 1) (.f .sub .i64 (.w 3) (.p 1))) (.j (.tt ZB) .nil)))))
(.u (.cons (.w 0) (.cons (.mn (.w 1) (.w 3)) (.j (.tt ZB) .nil)))))
def alh:c_ibelow.Ok ZF:=
 AU wt (v_Pi (v_Pi [.bool,.int .i64])) fV AI func128<|jl fun a ha=>jl fun b hb=>fun t m hm hp U g=>by
 simp only[BN,AA,ZD]at g;simp only[wt,c_ibelow,BN,Ai,ZH,ZD,-eq_self,Pi.eta,g]
 .repeat' first|apply aI<;>intro c|exact XA
def c_given:Cd:=⟨82,[.one (.int .i8),.agg kRg,.agg kRg],[.agg kRg,.one .bool],rdZ fun cc=>rd_Rg fun a=>rd_Rg fun b _=>d_Rg (C4 cc a b) [.z (AD (CI cc a b))],T0⟩
def aoj:Tr:=(.call 1 (kRg) .nil 20
(.u (.vs 20 4 (.j (.tt ZC) .nil))))
def aok:Tr:=(.call 1 (kRg) .nil 23
(.u (.vs 23 4 (.j (.tt ZC) .nil))))
def Ut:Tr:=(.call 1 (kRg) .nil 11
(.u (.vs 11 4 (.j (.tt ZC) .nil))))
def aol:Tr:=(.call 13 (kRg++[.bool]) (.vs 20 4 .nil) 24
(.u (.vs 24 4 (.j (.s 28) .nil))))
def aom:Tr:=(.br (.s 19)
(.call 12 (kRg) (.vs 11 2 (.vs 17 2 .nil)) 20
 aol)
 aoj)
def aon:Tr:=(.br (.s 19)
(.call 12 (kRg) (.vs 17 2 (.vs 13 2 .nil)) 20
 aol)
 aoj)
def aoo:Tr:=(.call 4 (kPu) (.vs 5 4 .nil) 15
(.call 9 (kPu++[.bool]) (.vs 11 2 (.vs 15 2 (.j (.eq (.w 0) (.p 4)) (.cons (.p 0) .nil)))) 17
 aon))
def aop:Tr:=(.call 5 (kPi) (.vs 5 4 .nil) 15
(.call 10 (kPi++[.bool]) (.vs 13 4 (.j (.eq (.w 0) (.p 6)) (.cons (.p 9223372036854775807) .nil))) 17
 aom))
def aoq:Tr:=(.call 5 (kPi) (.vs 5 4 .nil) 15
(.call 11 (kPi++[.bool]) (.vs 13 4 (.j (.eq (.w 0) (.p 8)) (.cons (.p (-9223372036854775808)) .nil))) 17
 aom))
def aor:Tr:=(.call 4 (kPu) (.vs 5 4 .nil) 15
(.call 8 (kPu++[.bool]) (.vs 11 2 (.vs 15 2 (.j (.eq (.w 0) (.p 2)) (.cons (.p 18446744073709551615) .nil)))) 17
 aon))
def tR:Tr:=
(.call 0 [.bool] (.vs 1 4 .nil) 9
(.br (.s 9)
(.call 0 [.bool] (.vs 5 4 .nil) 10
(.br (.s 10)
(.br (.lt (.w 0) (.p 0))
 Ut
(.br (.lt (.p 10) (.w 0))
 Ut
(.call 4 (kPu) (.vs 1 4 .nil) 11
(.call 5 (kPi) (.vs 1 4 .nil) 13
(.br (.eq (.w 0) (.p 0))
(.call 2 (kRg++[.bool]) (.vs 1 8 .nil) 15
(.u (.vs 15 4 (.j (.s 19) .nil))))
(.br (.eq (.w 0) (.p 1))
(.call 3 [.int .u64,.bool] (.vs 5 4 .nil) 15
(.br (.s 16)
(.call 6 (kPu++[.bool]) (.vs 11 2 (.cons (.w 15) .nil)) 17
(.call 7 (kPi++[.bool]) (.vs 13 2 (.cons (.F .i64 (.w 15)) .nil)) 20
(.br (.s 19)
(.br (.s 22)
(.call 12 (kRg) (.vs 17 2 (.vs 20 2 .nil)) 23
(.call 13 (kRg++[.bool]) (.vs 23 4 .nil) 27
(.u (.vs 27 4 (.j (.s 31) .nil)))))
 aok)
 aok)))
(.call 12 (kRg) (.vs 11 4 .nil) 17
(.call 13 (kRg++[.bool]) (.vs 17 4 .nil) 21
(.u (.vs 21 4 (.j (.s 25) .nil)))))))
(.br (.eq (.w 0) (.p 2))
 aor
(.br (.eq (.w 0) (.p 3))
 aor
(.br (.eq (.w 0) (.p 4))
 aoo
(.br (.eq (.w 0) (.p 5))
 aoo
(.br (.eq (.w 0) (.p 6))
 aop
(.br (.eq (.w 0) (.p 7))
 aop
(.br (.eq (.w 0) (.p 8))
 aoq
(.br (.eq (.w 0) (.p 9))
 aoq
(.call 12 (kRg) (.vs 11 4 .nil) 15
(.call 13 (kRg++[.bool]) (.vs 15 4 .nil) 19
(.u (.vs 19 4 (.j (.s 23) .nil)))))))))))))))))))
 Ut))
(.call 1 (kRg) .nil 10
(.u (.vs 10 4 (.j (.tt ZC) .nil))))))
def akv:cg aep (FV 0 [c_may,c_all,c_meet,c_single,c_uns,c_sig,c_uwo,c_iwo,c_uabove,c_ubelow,c_iabove,c_ibelow,c_of,c_nar]) [] [] [] 200 f82 c_given.a c_given.r (tp c_given.r) (.int .i8::v_Rg (v_Rg [])) tR:=E4 (by kernel_rfl)
def aqJ:c_given.Ok ZF:=
 GD tR (.int .i8::v_Rg (v_Rg [])) fV (Am xh<|Am nS<|Am amZ<|Am uB<|Am PN<|Am PO<|Am ave<|Am avl<|Am akV<|Am akU<|Am ali<|Am alh<|Am JT<|Am aqD AI) func82 EZ akv<|fun cc Cu=>dz fun a ha=>dz fun b hb hp U g=>by
 simp only[AJ,BO,BN,AA,ZD]at g;simp only[tR,aor,aoq,aop,aoo,aon,aom,aol,Ut,aok,aoj,c_may,c_all,c_meet,c_single,c_uns,c_sig,c_uwo,c_iwo,c_uabove,c_ubelow,c_iabove,c_ibelow,c_of,c_nar,c_given,AJ,BO,BN,Ai,ZH,ZD,-eq_self,bU,g];refine aA ?_;apply aI<;>intro c0;refine aA ?_;apply aI<;>intro c1;apply aI<;>intro c2;refine aA ?_
 .exact dD (gU (.inl (by unfold jy;rw[c0,c1,ff (show¬0<=cc from Int.not_le.2 (Ah c2))];rfl))).1 (gU (.inl (by unfold jy;rw[c0,c1,ff (show¬0<=cc from Int.not_le.2 (Ah c2))];rfl))).2
 apply aI<;>intro c3;refine aA ?_
 .exact dD (gU (.inl (by unfold jy;rw[c0,c1,ff (show¬cc<=10 from Int.not_le.2 (Ah c3))];simp))).1 (gU (.inl (by unfold jy;rw[c0,c1,ff (show¬cc<=10 from Int.not_le.2 (Ah c3))];simp))).2
 refine aA ?_;refine aA ?_;apply aI<;>intro c4;refine aA ?_
 ·(have Cu:0<=cc/\cc<=10:=⟨cb.1 (Ab c2),cb.1 (Ab c3)⟩;have hg:=ce c0 c1 Cu;obtain rfl:=A4 c4;exact dD (atJ hg).1 (atJ hg).2)
 apply aI<;>intro c5;refine aA ?_;apply aI<;>intro c6;refine aA ?_;refine aA ?_;apply aI<;>intro c7;apply aI<;>intro c8;refine aA ?_;refine aA ?_
 ·(have Cu:0<=cc/\cc<=10:=⟨cb.1 (Ab c2),cb.1 (Ab c3)⟩;have hg:=ce c0 c1 Cu;obtain rfl:=A4 c5;have hq:=kp Fn hg (avN ha hb c6 c7 c8) (avA ha hb c0 c6 c7 c8);exact dD hq.1 hq.2)
 refine aA ?_
 ·(have Cu:0<=cc/\cc<=10:=⟨cb.1 (Ab c2),cb.1 (Ab c3)⟩;have hg:=ce c0 c1 Cu;obtain rfl:=A4 c5;have hq:=gU (cc:=1) (.inr ⟨by omega,atG ha hb c6 (.inr c8)⟩);exact dD hq.1 hq.2)
 refine aA ?_
 ·(have Cu:0<=cc/\cc<=10:=⟨cb.1 (Ab c2),cb.1 (Ab c3)⟩;have hg:=ce c0 c1 Cu;obtain rfl:=A4 c5;have hq:=gU (cc:=1) (.inr ⟨by omega,atG ha hb c6 (.inl c7)⟩);exact dD hq.1 hq.2)
 refine aA ?_;refine aA ?_
 ·(have Cu:0<=cc/\cc<=10:=⟨cb.1 (Ab c2),cb.1 (Ab c3)⟩;have hg:=ce c0 c1 Cu;obtain rfl:=A4 c5;have hq:=kp Fn hg (atH ha hb c6) (atE ha hb c6);exact dD hq.1 hq.2)
 apply aI<;>intro c9;refine aA ?_;refine aA ?_;apply aI<;>intro BF;refine aA ?_;refine aA ?_
 ·(have Cu:0<=cc/\cc<=10:=⟨cb.1 (Ab c2),cb.1 (Ab c3)⟩;have hg:=ce c0 c1 Cu;obtain rfl:=A4 c9;have hq:=kp Fn hg (avM ha hb BF) (avz ha hb BF);exact dD hq.1 hq.2)
 refine aA ?_
 ·(have Cu:0<=cc/\cc<=10:=⟨cb.1 (Ab c2),cb.1 (Ab c3)⟩;have hg:=ce c0 c1 Cu;obtain rfl:=A4 c9;have hq:=gU (cc:=2) (.inr ⟨by omega,avE ha hb BF⟩);exact dD hq.1 hq.2)
 apply aI<;>intro CF;refine aA ?_;refine aA ?_;apply aI<;>intro B9;refine aA ?_;refine aA ?_
 ·(have Cu:0<=cc/\cc<=10:=⟨cb.1 (Ab c2),cb.1 (Ab c3)⟩;have hg:=ce c0 c1 Cu;obtain rfl:=A4 CF;have hq:=kp Fn hg (avL ha hb B9) (avy ha hb B9);exact dD hq.1 hq.2)
 refine aA ?_
 ·(have Cu:0<=cc/\cc<=10:=⟨cb.1 (Ab c2),cb.1 (Ab c3)⟩;have hg:=ce c0 c1 Cu;obtain rfl:=A4 CF;exact ai B9 (by simp))
 apply aI<;>intro Cr;refine aA ?_;refine aA ?_;apply aI<;>intro CG;refine aA ?_;refine aA ?_
 ·(have Cu:0<=cc/\cc<=10:=⟨cb.1 (Ab c2),cb.1 (Ab c3)⟩;have hg:=ce c0 c1 Cu;obtain rfl:=A4 Cr;have hq:=kp Fn hg (avK ha hb CG) (avx ha hb CG);exact dD hq.1 hq.2)
 refine aA ?_
 ·(have Cu:0<=cc/\cc<=10:=⟨cb.1 (Ab c2),cb.1 (Ab c3)⟩;have hg:=ce c0 c1 Cu;obtain rfl:=A4 Cr;have hq:=gU (cc:=4) (.inr ⟨by omega,avD ha hb CG⟩);exact dD hq.1 hq.2)
 apply aI<;>intro C1;refine aA ?_;refine aA ?_;apply aI<;>intro Dk;refine aA ?_;refine aA ?_
 ·(have Cu:0<=cc/\cc<=10:=⟨cb.1 (Ab c2),cb.1 (Ab c3)⟩;have hg:=ce c0 c1 Cu;obtain rfl:=A4 C1;have hq:=kp Fn hg (avJ ha hb Dk) (avw ha hb Dk);exact dD hq.1 hq.2)
 refine aA ?_
 ·(have Cu:0<=cc/\cc<=10:=⟨cb.1 (Ab c2),cb.1 (Ab c3)⟩;have hg:=ce c0 c1 Cu;obtain rfl:=A4 C1;exact ai Dk (by simp))
 apply aI<;>intro Df;refine aA ?_;refine aA ?_;apply aI<;>intro Dg;refine aA ?_;refine aA ?_
 ·(have Cu:0<=cc/\cc<=10:=⟨cb.1 (Ab c2),cb.1 (Ab c3)⟩;have hg:=ce c0 c1 Cu;obtain rfl:=A4 Df;have hq:=kp Fn hg (avI ha hb Dg) (avv ha hb Dg);exact dD hq.1 hq.2)
 refine aA ?_
 ·(have Cu:0<=cc/\cc<=10:=⟨cb.1 (Ab c2),cb.1 (Ab c3)⟩;have hg:=ce c0 c1 Cu;obtain rfl:=A4 Df;have hq:=gU (cc:=6) (.inr ⟨by omega,avC ha hb Dg⟩);exact dD hq.1 hq.2)
 apply aI<;>intro Dz;refine aA ?_;refine aA ?_;apply aI<;>intro DA;refine aA ?_;refine aA ?_
 ·(have Cu:0<=cc/\cc<=10:=⟨cb.1 (Ab c2),cb.1 (Ab c3)⟩;have hg:=ce c0 c1 Cu;obtain rfl:=A4 Dz;have hq:=kp Fn hg (avH ha hb DA) (avu ha hb DA);exact dD hq.1 hq.2)
 refine aA ?_
 ·(have Cu:0<=cc/\cc<=10:=⟨cb.1 (Ab c2),cb.1 (Ab c3)⟩;have hg:=ce c0 c1 Cu;obtain rfl:=A4 Dz;exact ai DA (by simp))
 apply aI<;>intro EM;refine aA ?_;refine aA ?_;apply aI<;>intro FY;refine aA ?_;refine aA ?_
 ·(have Cu:0<=cc/\cc<=10:=⟨cb.1 (Ab c2),cb.1 (Ab c3)⟩;have hg:=ce c0 c1 Cu;obtain rfl:=A4 EM;have hq:=kp Fn hg (avG ha hb FY) (avt ha hb FY);exact dD hq.1 hq.2)
 refine aA ?_
 ·(have Cu:0<=cc/\cc<=10:=⟨cb.1 (Ab c2),cb.1 (Ab c3)⟩;have hg:=ce c0 c1 Cu;obtain rfl:=A4 EM;have hq:=gU (cc:=8) (.inr ⟨by omega,avB ha hb FY⟩);exact dD hq.1 hq.2)
 apply aI<;>intro GH;refine aA ?_;refine aA ?_;apply aI<;>intro HA;refine aA ?_;refine aA ?_
 ·(have Cu:0<=cc/\cc<=10:=⟨cb.1 (Ab c2),cb.1 (Ab c3)⟩;have hg:=ce c0 c1 Cu;obtain rfl:=A4 GH;have hq:=kp Fn hg (avF ha hb HA) (avs ha hb HA);exact dD hq.1 hq.2)
 refine aA ?_
 ·(have Cu:0<=cc/\cc<=10:=⟨cb.1 (Ab c2),cb.1 (Ab c3)⟩;have hg:=ce c0 c1 Cu;obtain rfl:=A4 GH;exact ai HA (by simp))
 refine aA ?_;refine aA ?_
 ·(have Cu:0<=cc/\cc<=10:=⟨cb.1 (Ab c2),cb.1 (Ab c3)⟩;have hg:=ce c0 c1 Cu;obtain rfl:cc=10:=(by have:=CT c4;have h1:=CT c5;have h2:=CT c9;have h3:=CT CF;have h4:=CT Cr;have h5:=CT C1;have h6:=CT Df;have h7:=CT Dz;have h8:=CT EM;have h9:=CT GH;omega);have hq:=kp Fn hg (atI ha hb) (atF ha hb);exact dD hq.1 hq.2)
 refine aA ?_
 .exact dD (gU (.inl (by unfold jy;rw[c0,c1];rfl))).1 (gU (.inl (by unfold jy;rw[c0,c1];rfl))).2
 refine aA ?_
 .exact dD (gU (.inl (by unfold jy;rw[c0];rfl))).1 (gU (.inl (by unfold jy;rw[c0];rfl))).2
structure Sc where
 ul:Int
 uh:Int
 sl:Int
 sh:Int
 v:Int
 m:Int
def Sc.r(a:Sc):Rg:=⟨a.ul,a.uh,a.sl,a.sh⟩
def Sc.k(a:Sc):Kn:=⟨a.v,a.m⟩
def sc(r:Rg)(k:Kn):Sc:=⟨r.ul,r.uh,r.sl,r.sh,k.v,k.m⟩
def Sc.eta_r(a:Sc):(⟨a.ul,a.uh,a.sl,a.sh⟩:Rg)=a.r:=rfl
def Sc.eta_k(a:Sc):(⟨a.v,a.m⟩:Kn)=a.k:=rfl
def Sc.eta_2(r:Rg)(k:Kn):(⟨r.ul,r.uh,r.sl,r.sh,k.v,k.m⟩:Sc)=sc r k:=rfl
def Bf(a:Sc):Bool:=AT a.r&&Bz a.k
def vall:Sc:=sc ball kall
def Cb(v:Int):Sc:=sc (Hz v) (Ep v)
def A3(a:Sc)(x:Int):Bool:=Bf a&&(AF a.r x&&AX a.k x)
def xW(a:Sc):Bool:=Bf a&&ey a.r
def jD(a:Sc):Int:=if Bf a=ZB then aF a.r else 0
def Gl(r:Rg):Kn:=kj r.ul (lg (bits .xor .u64 r.ul r.uh))
def Na(k:Kn):Rg:=⟨k.v,bits .or .u64 k.v k.m,ball.sl,ball.sh⟩
def MA(a:Sc):Bool:=fv a.r (Na a.k)
def MB(a:Sc):Bool:=eJ a.k (Gl (jw a.r (Na a.k)))
def Jv(a:Sc):Sc:=sc (jw a.r (Na a.k)) (ju a.k (Gl (jw a.r (Na a.k))))
def Dc(a:Sc):Bool:=Bf a&&(MA a&&(MB a&&(MA (Jv a)&&MB (Jv a))))
def Cj(a:Sc):Sc:=if Dc a=ZB then Jv (Jv a)else vall
def Sy{a:Sc}(h0:Bf a=ZB)(h1:MA a=ZB)(h2:MB a=ZB)(h3:MA (Jv a)=ZB)(h4:MB (Jv a)=ZB):Cj a=Jv (Jv a)/\Dc a=ZB:=by
 have h:Dc a=ZB:=by unfold Dc;rw[h0,h1,h2,h3,h4];rfl
 exact⟨ae h,h⟩
def Lm{a:Sc}(h:Bf a=ZC\/MA a=ZC\/MB a=ZC\/MA (Jv a)=ZC\/MB (Jv a)=ZC):Cj a=vall/\Dc a=ZC:=by
 have h:Dc a=ZC:=by unfold Dc;rcases h with h|h|h|h|h<;>rw[h]<;>simp
 exact⟨aa X3,h⟩
def arL(a:Sc):(if Dc a=ZB then Cj a else vall)=Cj a:=by
 cases h:Dc a
 .unfold Cj;rw[h];simp
 .simp
def jF(a b:Sc):Sc:=if Bf a=ZB/\Bf b=ZB then Cj (sc (jx a.r b.r) (jv a.k b.k))else vall
def Gc(x y:Rg):Rg:=⟨if(x.ul==y.ul)=ZC/\decide (y.ul<x.ul)=ZB then 0 else x.ul,if(x.uh==y.uh)=ZC/\decide (x.uh<y.uh)=ZB then 18446744073709551615 else x.uh,
 if(x.sl==y.sl)=ZC/\decide (y.sl<x.sl)=ZB then -9223372036854775808 else x.sl,if(x.sh==y.sh)=ZC/\decide (x.sh<y.sh)=ZB then 9223372036854775807 else x.sh⟩
def DJ(a b:Sc):Sc:=if Bf a=ZB/\Bf b=ZB then Cj (sc (Gc a.r b.r) (jv a.k b.k))else vall
def I7(a:Sc):Sc:=Cj (sc (C5 a.r) (B5 a.k 32))
def H9(t:Int):Sc:=Cj (sc ⟨0,t,ball.sl,ball.sh⟩ ⟨0,t⟩)
def Ll(r:Rg):Rg:=if r.uh<4294967296 then r else C5 ball
def eY(op:Int)(a b:Sc):Rg:=
 if op=8\/op=12 then C5 ball
 else if op=6\/op=7 then(if xW b=ZB then Ll (DZ op a.r (Cb (Ac .and .u64 (jD b) 31)).r)else C5 ball)
 else Ll (DZ op a.r b.r)
def Qh(op w:Int)(a b:Sc):Sc:=sc (eY op (I7 a) (I7 b)) (Jo op w (I7 a).k (I7 b).k)
def Hy(op w:Int)(a b:Sc):Sc:=if Bv op w=ZB/\Bf a=ZB/\Bf b=ZB then(if w=64 then Cj (sc (DZ op a.r b.r) (Jo op 64 a.k b.k))else if Dc (Qh op w a b)=ZB then Cj (Qh op w a b)else H9 4294967295)else vall
def Vp(cc:Int)(a b:Sc):Kn:=if cc=0 then ju a.k b.k else a.k
def Vq(cc:Int)(a b:Sc):Sc:=sc (C4 cc a.r b.r) (Vp cc a b)
def DI(cc:Int)(a b:Sc):Bool:=Bf a&&(Bf b&&(CI cc a.r b.r&&((if cc=0 then eJ a.k b.k else ZB)&&Dc (Vq cc a b))))
def Eu(cc:Int)(a b:Sc):Sc:=if DI cc a b=ZB then Cj (Vq cc a b)else vall
def Sv{a b:Sc}(h0:Bf a=ZB)(h1:Bf b=ZB)(h2:CI cc a.r b.r=ZB)(h3:(cc==0)=ZB)(h4:eJ a.k b.k=ZB):
  Eu cc a b=Cj (sc (C4 cc a.r b.r) (ju a.k b.k))/\DI cc a b=Dc (sc (C4 cc a.r b.r) (ju a.k b.k)):=by
 obtain rfl:=A4 h3;have e:DI 0 a b=Dc (sc (C4 0 a.r b.r) (ju a.k b.k)):=by unfold DI;rw[h0,h1,h2,ae rfl,h4];rfl
 refine⟨?_,e⟩;unfold Eu;rw[e];exact arL _
def Sw{a b:Sc}(h0:Bf a=ZB)(h1:Bf b=ZB)(h2:CI cc a.r b.r=ZB)(h3:(cc==0)=ZC):
  Eu cc a b=Cj (sc (C4 cc a.r b.r) a.k)/\DI cc a b=Dc (sc (C4 cc a.r b.r) a.k):=by
 have h3:=CT h3;have e:DI cc a b=Dc (sc (C4 cc a.r b.r) a.k):=by unfold DI Vq Vp;rw[h0,h1,h2,aa h3,aa h3];rfl
 refine⟨?_,e⟩;unfold Eu;rw[e];unfold Vq Vp;rw[aa h3];exact arL _
def Mz{a b:Sc}(h:Bf a=ZC\/Bf b=ZC\/CI cc a.r b.r=ZC\/((cc==0)=ZB/\eJ a.k b.k=ZC)):Eu cc a b=vall/\DI cc a b=ZC:=by
 have h:DI cc a b=ZC:=by
  unfold DI;rcases h with h|h|h|⟨h,h'⟩
  .exact X3
  .exact X3
  .exact X3
  .rw[ae (A4 h),h'];simp
 exact⟨aa X3,h⟩
def DW(cc l:Int):Bool:=(decide (0<=cc)&&decide (cc<=10))&&fG l
def ap2{b:Bool}(h:((if b=ZB then(0:Int)else 2)==0)=ZB):b=ZB:=by cases b<;>simp_all
def asG{b:Bool}(h:((if b=ZB then(0:Int)else 2)==0)=ZC):b=ZC:=by cases b<;>simp_all
def dZ{r s:Kn}(h:r=s):[Dt.z r.v,.z r.m]=[Dt.z s.v,.z s.m]:=by rw[h]
def asU{r:Rg}(hr:r.wf):(⟨bits .andNot .u64 r.ul (Ac .sub .u64 (Ac .shl .u64 1 (Ac .sub .i64 64 (64-(aB (bits .xor .u64 r.ul r.uh).toNat:Int)))) 1),Ac .sub .u64 (Ac .shl .u64 1 (Ac .sub .i64 64 (64-(aB (bits .xor .u64 r.ul r.uh).toNat:Int)))) 1⟩:Kn)=Gl r:=by
 have hx:=rz r.ul r.uh;have hb:aB (bits .xor .u64 r.ul r.uh).toNat<=64:=gE Fn;have e:Ac .sub .i64 64 (64-(aB (bits .xor .u64 r.ul r.uh).toNat:Int))=(aB (bits .xor .u64 r.ul r.uh).toNat:Int):=by show IntKind.i64.wrap _=_;rw[aT];omega
 rw[e,zv hx.1 hx.2];rfl
def asV{r:Rg}(hr:r.wf)(h:decide (0<64-(aB (bits .xor .u64 r.ul r.uh).toNat:Int))=ZC):(⟨bits .andNot .u64 r.ul 18446744073709551615,18446744073709551615⟩:Kn)=Gl r:=by
 have h:=Ab h;have hx:=rz r.ul r.uh;have hb:aB (bits .xor .u64 r.ul r.uh).toNat<=64:=gE Fn;have e:lg (bits .xor .u64 r.ul r.uh)=18446744073709551615:=by unfold lg;rw[show aB (bits .xor .u64 r.ul r.uh).toNat=64 by omega];rfl
 unfold Gl kj;rw[e]
section
variable {op l:Int}{a b:Kn}
def asS(h:ed op l a b=ZC):kall=Jo op l a b:=by unfold Jo;rw[aa X3]
def kd_a(h:Bz a=ZC):ed op l a b=ZC:=by simp[ed,h]
def kd_b(h:Bz b=ZC):ed op l a b=ZC:=by simp[ed,h]
def au8(h:decide (op<0)=ZB):ed op l a b=ZC:=by have:=Ah h;simp[ed,ff (show¬0<=op by omega)]
def au9(h:decide (12<op)=ZB):ed op l a b=ZC:=by have:=Ah h;simp[ed,ff (show¬op<=12 by omega)]
def kd_w(h:(l==32)=ZC)(h':(l==64)=ZC):ed op l a b=ZC:=by simp[ed,fG,h,h']
def asR(h0:Bz a=ZB)(h1:Bz b=ZB)(h2:decide (op<0)=ZC)(h3:decide (12<op)=ZC)(h4:fG l=ZB):ed op l a b=ZB/\Bv op l=ZB:=by have h2:=Ab h2;have h3:=Ab h3;simp[ed,Bv,h0,h1,h4,dm (show 0<=op by omega),dm (show op<=12 by omega)]
def au7(h:(!ed op l a b)=ZC):(ed op l a b=ZB/\Bv op l=ZB)/\(0<=op/\op<=12)/\(l=32\/l=64):=by have h:ed op l a b=ZB:=Xx;have h2:=h;unfold ed at h2;simp only[ne,aE]at h2;obtain⟨_,_,h3,h4,h5⟩:=h2;refine⟨⟨h,by unfold Bv;rw[dm h3,dm h4,h5];rfl⟩,⟨h3,h4⟩,?_⟩;unfold fG at h5;simpa using h5
def asQ(hg:ed op l a b=ZB/\Bv op l=ZB)(h:(bits .or .u64 (B5 a l).m (B5 b l).m==0)=ZB):Ep (if Bv op l=ZB then BE op l (B5 a l).v (B5 b l).v else 0)=Jo op l a b:=by unfold Jo;rw[ae hg.1,ae h,ae hg.2]
def lf{X:Kn}(hg:ed op l a b=ZB/\Bv op l=ZB)(h:(bits .or .u64 (B5 a l).m (B5 b l).m==0)=ZC)(e:Dm op l (B5 a l) (B5 b l)=X):B5 X l=Jo op l a b:=by unfold Jo;rw[ae hg.1,aa X3,e]
def aqg(h:op=6\/op=7\/op=12)(c:(bits .and .u64 b.m (l-1)==0)=ZB):Dm op l a b=TO op l a b:=by unfold Dm;rcases h with rfl|rfl|rfl<;>simp[c]
def aqh(h:op=6\/op=7\/op=12)(c:(bits .and .u64 b.m (l-1)==0)=ZC):Dm op l a b=kall:=by unfold Dm;rcases h with rfl|rfl|rfl<;>simp[c]
end
def Kn.eta(a:Kn):(⟨a.v,a.m⟩:Kn)=a:=rfl
def rd_Kn(k:Kn->List Dt->List Dt):List Dt->List Dt
 |.z z0::.z z1::r=>k ⟨z0,z1⟩ r
 |_=>[]
def Kn.ok(a:Kn):Prop:=Ae .u64 a.v=ZB/\Ae .u64 a.m=ZB
def kKn:List CK:=[.int .u64,.int .u64]
def v_Kn(t:List VK):List VK:=.int .u64::.int .u64::t
def d_Kn(a:Kn)(t:List Dt):List Dt:=.z a.v::.z a.m::t
def cM{p:List Dt->Prop}(h:∀a:Kn,Kn.ok a->aS l fun r=>p (d_Kn a r)):aS (v_Kn l) p:=fun x0 C6 x1 Do=>h ⟨x0,x1⟩ ⟨C6,Do⟩
def AM:=aI @v_Kn.eq_1 (aI @d_Kn.eq_1 (aI @rd_Kn.eq_1 (@kKn.eq_1)))
def Sc.eta(a:Sc):(⟨a.ul,a.uh,a.sl,a.sh,a.v,a.m⟩:Sc)=a:=rfl
def rd_Sc(k:Sc->List Dt->List Dt):List Dt->List Dt
 |.z z0::.z z1::.z z2::.z z3::.z z4::.z z5::r=>k ⟨z0,z1,z2,z3,z4,z5⟩ r
 |_=>[]
def Sc.ok(a:Sc):Prop:=Ae .u64 a.ul=ZB/\Ae .u64 a.uh=ZB/\Ae .i64 a.sl=ZB/\Ae .i64 a.sh=ZB/\Ae .u64 a.v=ZB/\Ae .u64 a.m=ZB
def kSc:List CK:=[.int .u64,.int .u64,.int .i64,.int .i64,.int .u64,.int .u64]
def v_Sc(t:List VK):List VK:=.int .u64::.int .u64::.int .i64::.int .i64::.int .u64::.int .u64::t
def d_Sc(a:Sc)(t:List Dt):List Dt:=.z a.ul::.z a.uh::.z a.sl::.z a.sh::.z a.v::.z a.m::t
def dy{p:List Dt->Prop}(h:∀a:Sc,Sc.ok a->aS l fun r=>p (d_Sc a r)):aS (v_Sc l) p:=fun x0 C6 x1 Do x2 Ge x3 Gf x4 LW x5 KL=>h ⟨x0,x1,x2,x3,x4,x5⟩ ⟨C6,Do,Ge,Gf,LW,KL⟩
def AP:=aI @v_Sc.eq_1 (aI @d_Sc.eq_1 (aI @rd_Sc.eq_1 (@kSc.eq_1)))
def eW:=aI Kn.eta (aI Pi.eta (aI Pu.eta (aI Rg.eta (aI Sc.eta (aI Sc.eta_r (aI Sc.eta_k (Sc.eta_2)))))))
def cG(k:q2)(h:p->q=q2:=by intro e;(try simp only[e,eW,-eq_self]);rfl):p->q:=fun e=>(h e).symm▸k
def aoN:List (Nat×TI):=[(2,CC),
 (39,fe),
 (46,ic),
 (48,jr),
 (50,PI)]
def cC:∀t i,(t,i)∈aoN->TIok ZF t i:=bl B1 B1 (by kernel_rfl)
def c_kmay:Cd:=⟨118,[.agg kKn],[.one .bool],rd_Kn fun a _=>[.z (AD (Bz a))],T0⟩
def agf:Tr:=
(.u (.j (.eq (.f .and .u64 (.w 0) (.w 1)) (.p 0)) .nil))
def sd:c_kmay.Ok ZF:=
 AU agf (v_Kn []) cC AI func118<|cM fun a ha hp U g=>by
 simp only[AM,AA,ZD]at g;simp only[agf,c_kmay,AM,Ai,ZH,ZD,-eq_self,Kn.eta,Sc.eta_r,Sc.eta_k,Sc.eta_2,g]
 .rfl
def c_kall:Cd:=⟨116,[],[.agg kKn],fun _=>d_Kn kall [],T0⟩
def agl:Tr:=
(.u (.cons (.p 0) (.cons (.p 18446744073709551615) .nil)))
def xi:c_kall.Ok ZF:=
 AU agl [] cC AI func116<|fun hp U g=>by
 simp only[agl,c_kall,AM,Ai,ZH,ZD,-eq_self,Sc.eta_r,Sc.eta_k,Sc.eta_2]
 .rfl
def c_kone:Cd:=⟨70,[.one (.int .u64)],[.agg kKn],rdZ fun v _=>d_Kn (Ep v) [],T0⟩
def agd:Tr:=
(.u (.cons (.w 0) (.cons (.p 0) .nil)))
def Xa:c_kone.Ok ZF:=
 AU agd [.int .u64] cC AI func70<|fun v hv hp U g=>by
 simp only[AM,AA,ZD]at g;simp only[agd,c_kone,AM,Ai,ZH,ZD,-eq_self,Sc.eta_r,Sc.eta_k,Sc.eta_2,g]
 .rfl
def c_khas:Cd:=⟨101,[.agg kKn,.one (.int .u64)],[.one .bool],rd_Kn fun a=>rdZ fun v _=>[.z (AD (AX a v))],T0⟩
def agh:Tr:=
(.call 0 [.bool] (.vs 0 2 .nil) 3
(.br (.s 3)
(.u (.j (.eq (.f .andNot .u64 (.w 2) (.w 1)) (.w 0)) .nil))
 zlF))
def atl:c_khas.Ok ZF:=
 AU agh (v_Kn [.int .u64]) cC (Am sd AI) func101<|cM fun a ha=>fun v hv hp U g=>by
 simp only[AM,AA,ZD]at g;simp only[agh,c_kmay,c_khas,AM,Ai,ZH,ZD,-eq_self,eW,g];refine cG ?_;apply aI<;>intro c0
 .exact Yo
 .exact Yo
def c_kmask:Cd:=⟨130,[.one (.int .u64),.one (.int .u64)],[.agg kKn],rdZ fun v=>rdZ fun m _=>d_Kn (kj v m) [],T0⟩
def aa1:Tr:=
(.u (.cons (.f .andNot .u64 (.w 0) (.w 1)) (.cons (.w 1) .nil)))
def nR:c_kmask.Ok ZF:=
 AU aa1 [.int .u64,.int .u64] cC AI func130<|fun v hv m hm hp U g=>by
 simp only[AM,AA,ZD]at g;simp only[aa1,c_kmask,AM,Ai,ZH,ZD,-eq_self,Sc.eta_r,Sc.eta_k,Sc.eta_2,g]
 .rfl
def c_kjoin:Cd:=⟨87,[.agg kKn,.agg kKn],[.agg kKn],rd_Kn fun a=>rd_Kn fun b _=>d_Kn (jv a b) [],T0⟩
def aa2:Tr:=
(.call 0 [.bool] (.vs 0 2 .nil) 4
(.br (.s 4)
(.call 0 [.bool] (.vs 2 2 .nil) 5
(.br (.s 5)
(.call 2 (kKn) (.cons (.w 0) (.cons (.f .or .u64 (.f .or .u64 (.w 1) (.w 3)) (.f .xor .u64 (.w 0) (.w 2))) .nil)) 6
(.u (.vs 6 2 .nil)))
(.call 1 (kKn) .nil 6
(.u (.vs 6 2 .nil)))))
(.call 1 (kKn) .nil 5
(.u (.vs 5 2 .nil)))))
def ahS:c_kjoin.Ok ZF:=
 AU aa2 (v_Kn (v_Kn [])) cC (Am sd<|Am xi<|Am nR AI) func87<|cM fun a ha=>cM fun b hb hp U g=>by
 simp only[AM,AA,ZD]at g;simp only[aa2,c_kmay,c_kall,c_kmask,c_kjoin,AM,Ai,ZH,ZD,-eq_self,eW,g];refine cG ?_;apply aI<;>intro c0;refine cG ?_;apply aI<;>intro c1;refine cG ?_
 ·(unfold jv;simp_all [Ac])
 refine cG ?_
 ·(unfold jv;simp_all [Ac])
 refine cG ?_
 ·(unfold jv;simp_all [Ac])
def c_kmeet:Cd:=⟨83,[.agg kKn,.agg kKn],[.agg kKn,.one .bool],rd_Kn fun a=>rd_Kn fun b _=>d_Kn (ju a b) [.z (AD (eJ a b))],T0⟩
def aoi:Tr:=(.call 1 (kKn) .nil 6
(.u (.vs 6 2 (.j (.tt ZC) .nil))))
def aa0:Tr:=
(.call 0 [.bool] (.vs 0 2 .nil) 4
(.br (.s 4)
(.call 0 [.bool] (.vs 2 2 .nil) 5
(.br (.s 5)
(.br (.eq (.f .andNot .u64 (.f .xor .u64 (.w 0) (.w 2)) (.f .or .u64 (.w 1) (.w 3))) (.p 0))
(.call 2 (kKn) (.cons (.f .or .u64 (.w 0) (.w 2)) (.cons (.f .and .u64 (.w 1) (.w 3)) .nil)) 6
(.u (.vs 6 2 (.j (.tt ZB) .nil))))
 aoi)
 aoi))
(.call 1 (kKn) .nil 5
(.u (.vs 5 2 (.j (.tt ZC) .nil))))))
def ahR:c_kmeet.Ok ZF:=
 AU aa0 (v_Kn (v_Kn [])) cC (Am sd<|Am xi<|Am nR AI) func83<|cM fun a ha=>cM fun b hb hp U g=>by
 simp only[AM,AA,ZD]at g;simp only[aa0,aoi,c_kmay,c_kall,c_kmask,c_kmeet,AM,Ai,ZH,ZD,-eq_self,eW,g];refine cG ?_
 .repeat' first|apply aI<;>intro c|refine cG ?_|exact X9
def c_bcut:Cd:=⟨141,[.one (.int .u64),.one (.int .i8)],[.one (.int .u64)],rdZ fun x=>rdZ fun l _=>[.z (Ap x l)],T0⟩
def api(x:Int)(hx:Ae .u64 x=ZB)(l:Int)(hl:Ae .i8 l=ZB):(∀w,Calls ZF 141 #[.int .u64 x,.int .i8 l] w fun e w'=>e=.returned (.int .u64 (Ap x l))/\Ext w w')/\fU (.int .u64 (Ap x l))=ZB:=by have g:=da hx;have hz:=pz (dk x l g.1 g.2);exact⟨fun W=>(aiJ x l W g.1 g.2).mono (by rintro e w' ⟨rfl,rfl⟩;exact⟨rfl,Ext.refl _⟩),hz⟩
def atz:c_bcut.Ok ZF:=fun hF hP=>by
 refine SmOk.pure (s:=c_bcut.m _) hF rfl rfl fun xs vals w h=> ?_;obtain⟨_,_,_,rfl,⟨x0,rfl,rfl,C6⟩,h⟩:=h;obtain⟨_,_,_,rfl,⟨x1,rfl,rfl,Do⟩,h⟩:=h;obtain⟨rfl,rfl⟩:=h;have q:=api x0 C6 x1 Do;refine⟨_,.inr ⟨dM func141 (by kernel_rfl) (by kernel_rfl) _ w,q.1 w⟩,?_,fun U v0 nid j he=> ?_⟩
 .have q2:=q.2;simp[fU,fh,fq]at q2;simp[c_bcut,Cd.m,tp,rdZ,rdB,rdL,ZQ,ZS,Sh.cks,ZP,YO,YP,b2i_one,gJ,q2]
 .simp only[c_bcut,Cd.m,tp,rdZ,rdB,rdL,ZQ,ZS,Sh.cks,ZP,YO,YP,b2i_one,eqs,dI,dB,cD,mj,bP,ZR,ZD,and_true]at he;simp[c_bcut,Cd.m,tp,rdZ,rdB,rdL,ZQ,ZS,Sh.cks,ZP,YO,YP,b2i_one,gi,bM,aH,V.den,C.den,Af,BJ,cu,E.I,E.B,he]
def c_kcut:Cd:=⟨147,[.agg kKn,.one (.int .i8)],[.agg kKn],rd_Kn fun a=>rdZ fun l _=>d_Kn (B5 a l) [],T0⟩
def agj:Tr:=
(.call 0 [.bool] (.vs 0 2 .nil) 3
(.br (.s 3)
(.call 2 [.int .u64] (.cons (.w 0) (.cons (.w 2) .nil)) 4
(.call 2 [.int .u64] (.vs 1 2 .nil) 5
(.u (.vs 4 2 .nil))))
(.call 1 (kKn) .nil 4
(.u (.vs 4 2 .nil)))))
def am1:c_kcut.Ok ZF:=
 AU agj (v_Kn [.int .i8]) cC (Am sd<|Am xi<|Am atz AI) func147<|cM fun a ha=>fun l hl hp U g=>by
 simp only[AM,AA,ZD]at g;simp only[agj,c_kmay,c_kall,c_bcut,c_kcut,AM,Ai,ZH,ZD,-eq_self,eW,g];refine cG ?_;apply aI<;>intro c0;refine cG ?_;refine cG ?_
 ·(unfold B5;simp_all)
 refine cG ?_
 ·(unfold B5;simp_all)
def c_vmay:Cd:=⟨81,[.agg kSc],[.one .bool],rd_Sc fun a _=>[.z (AD (Bf a))],T0⟩
def afL:Tr:=
(.call 0 [.bool] (.vs 0 4 .nil) 6
(.br (.s 6)
(.call 1 [.bool] (.vs 4 2 .nil) 7
(.u (.j (.s 7) .nil)))
 zlF))
def ox:c_vmay.Ok ZF:=
 AU afL (v_Sc []) cC (Am xh<|Am sd AI) func81<|dy fun a ha hp U g=>by
 simp only[AP,AJ,AM,AA,ZD]at g;simp only[afL,c_may,c_kmay,c_vmay,AP,AJ,AM,Ai,ZH,ZD,-eq_self,eW,g];refine cG ?_;apply aI<;>intro c0;refine cG ?_
 .exact YH
 .exact YH
def c_vall:Cd:=⟨80,[],[.agg kSc],fun _=>d_Sc vall [],T0⟩
def afT:Tr:=
(.call 0 (kRg) .nil 0
(.call 1 (kKn) .nil 4
(.u (.vs 0 6 .nil))))
def rZ:c_vall.Ok ZF:=
 AU afT [] cC (Am nS<|Am xi AI) func80<|fun hp U g=>by
 simp only[afT,c_all,c_kall,c_vall,AP,AJ,AM,Ai,ZH,ZD,-eq_self,eW];refine cG ?_;refine cG ?_
 .rfl
def c_vone:Cd:=⟨30,[.one (.int .u64)],[.agg kSc],rdZ fun v _=>d_Sc (Cb v) [],T0⟩
def afJ:Tr:=
(.call 0 (kRg) (.cons (.w 0) .nil) 1
(.call 1 (kKn) (.cons (.w 0) .nil) 5
(.u (.vs 1 6 .nil))))
def TP:c_vone.Ok ZF:=
 AU afJ [.int .u64] cC (Am avg<|Am Xa AI) func30<|fun v hv hp U g=>by
 simp only[AP,AJ,AM,AA,ZD]at g;simp only[afJ,c_one,c_kone,c_vone,AP,AJ,AM,Ai,ZH,ZD,-eq_self,eW,g];refine cG ?_;refine cG ?_
 .rfl
def c_vhas:Cd:=⟨64,[.agg kSc,.one (.int .u64)],[.one .bool],rd_Sc fun a=>rdZ fun v _=>[.z (AD (A3 a v))],T0⟩
def afN:Tr:=
(.call 0 [.bool] (.vs 0 6 .nil) 7
(.br (.s 7)
(.call 1 [.bool] (.vs 0 4 (.cons (.w 6) .nil)) 8
(.br (.s 8)
(.call 2 [.bool] (.vs 4 3 .nil) 9
(.u (.j (.s 9) .nil)))
 zlF))
 zlF))
def as2:c_vhas.Ok ZF:=
 AU afN (v_Sc [.int .u64]) cC (Am ox<|Am atw<|Am atl AI) func64<|dy fun a ha=>fun v hv hp U g=>by
 simp only[AP,AJ,AM,AA,ZD]at g;simp only[afN,c_vmay,c_has,c_khas,c_vhas,AP,AJ,AM,Ai,ZH,ZD,-eq_self,eW,g];refine cG ?_
 .repeat' first|apply aI<;>intro c|refine cG ?_|exact Ya
def c_vsingle:Cd:=⟨156,[.agg kSc],[.one (.int .u64),.one .bool],rd_Sc fun a _=>[.z (jD a),.z (AD (xW a))],T0⟩
def rL:Tr:=
(.call 0 [.bool] (.vs 0 6 .nil) 6
(.br (.s 6)
(.call 1 [.int .u64,.bool] (.vs 0 4 .nil) 7
(.u (.cons (.w 7) (.j (.s 8) .nil))))
(.u (.cons (.p 0) (.j (.tt ZC) .nil)))))
def ahM:c_vsingle.Ok ZF:=
 AU rL (v_Sc []) cC (Am ox<|Am uB AI) func156<|dy fun a ha hp U g=>by
 simp only[AP,AJ,AA,ZD]at g;simp only[rL,c_vmay,c_single,c_vsingle,AP,AJ,Ai,ZH,ZD,-eq_self,eW,g];refine cG ?_;apply aI<;>intro c0;refine cG ?_
 ·(unfold jD xW;simp_all)
 ·(unfold jD xW;simp_all)
def Kn.wf_of{a:Kn}(h:a.ok):a.wf:=⟨da h.1,da h.2⟩
structure Sc.wf(a:Sc):Prop where
 r:a.r.wf
 k:a.k.wf
def Sc.wf_of{a:Sc}(h:a.ok):a.wf:=by obtain⟨h1,h2,h3,h4,h5,h6⟩:=h;exact⟨⟨da h1,da h2,iU h3,iU h4⟩,⟨da h5,da h6⟩⟩
structure Ty where
 k:Int
 ul:Int
 uh:Int
 sl:Int
 sh:Int
 v:Int
 m:Int
 lo:Int
 hi:Int
def Ty.s(t:Ty):Sc:=⟨t.ul,t.uh,t.sl,t.sh,t.v,t.m⟩
def ty(k:Int)(s:Sc)(lo hi:Int):Ty:=⟨k,s.ul,s.uh,s.sl,s.sh,s.v,s.m,lo,hi⟩
def Ty.eta_s(t:Ty):(⟨t.ul,t.uh,t.sl,t.sh,t.v,t.m⟩:Sc)=t.s:=rfl
structure Sta where
 r0:Ty
 r1:Ty
 r2:Ty
 r3:Ty
 r4:Ty
 r5:Ty
 r6:Ty
 r7:Ty
 r8:Ty
 r9:Ty
 r10:Ty
 s0:Ty
 s1:Ty
 s2:Ty
 s3:Ty
 s4:Ty
 s5:Ty
 s6:Ty
 s7:Ty
def tnil:Ty:=⟨0,0,0,0,0,0,0,0,0⟩
def tscal:Ty:=ty 1 vall 0 0
def cr(t:Ty):Bool:=(t.ul==0)&&((t.uh==0)&&((t.sl==0)&&((t.sh==0)&&((t.v==0)&&(t.m==0)))))
def Bh(t:Ty):Bool:=
 if t.k=0 then cr t&&((t.lo==0)&&(t.hi==0))
 else if t.k=1 then Bf t.s&&((t.lo==0)&&(t.hi==0))
 else if t.k=2\/t.k=3 then cr t&&(decide (t.lo<=t.hi)&&(decide (-1048576<=t.lo)&&decide (t.hi<=1048576)))
 else ZC
def tset(t:Ty):Bool:=Bh t &&!(t.k==0)
def Az(s:Sta):Bool:=
 Bh s.r0&&(Bh s.r1&&(Bh s.r2&&(Bh s.r3&&(Bh s.r4&&(Bh s.r5&&(Bh s.r6&&(Bh s.r7&&(Bh s.r8&&(Bh s.r9&&(Bh s.r10&&
 (tset s.s0&&(tset s.s1&&(tset s.s2&&(tset s.s3&&(tset s.s4&&(tset s.s5&&(tset s.s6&&tset s.s7)))))))))))))))))
def bV(t:Ty):Int:=if t.k=2 then 2097152 else 3145728
def D9(t:Ty)(v:Int):Int:=ZG .i64 (ZG .u64 (v-bV t))
def aU(t:Ty)(v:Int):Bool:=Bh t&&(if t.k=0 then ZB else if t.k=1 then A3 t.s v else(decide (t.lo<=D9 t v)&&decide (D9 t v<=t.hi)))
def fX{t:Ty}(h:Bh t=ZB):t.k=0\/t.k=1\/t.k=2\/t.k=3:=by
 unfold Bh at h;split at h
 .exact .inl ‹_›
 split at h
 .exact .inr (.inl ‹_›)
 split at h
 next h2=>exact .inr (.inr h2)
 .exact Xo
def aal{t:Ty}(h:Bh t=ZC):aU t v=ZC:=by unfold aU;rw[h];rfl
def yf{t:Ty}(h:Bh t=ZB)(hk:t.k=0):aU t v=ZB:=by unfold aU;rw[h,ae hk];rfl
def nq{t:Ty}(h:Bh t=ZB)(hk:t.k=1):aU t v=A3 t.s v:=by unfold aU;rw[h,aa Fn,ae hk];rfl
def tB{t:Ty}(h:Bh t=ZB)(hk:t.k=2):aU t v=(decide (t.lo<=ZG .i64 (ZG .u64 (v-2097152)))&&decide (ZG .i64 (ZG .u64 (v-2097152))<=t.hi)):=by unfold aU D9 bV;rw[h,aa Fn,aa Fn,ae hk];rfl
def tA{t:Ty}(h:Bh t=ZB)(hk:t.k=3):aU t v=(decide (t.lo<=ZG .i64 (ZG .u64 (v-3145728)))&&decide (ZG .i64 (ZG .u64 (v-3145728))<=t.hi)):=by unfold aU D9 bV;rw[h,aa Fn,aa Fn,aa Fn];rfl
def uy{b c:Int}(h:decide (b<a)=ZB):(decide (a<=b)&&decide (b<=c))=ZC:=by have:=Ah h;simp;omega
def oS{b c:Int}(h:decide (b<a)=ZC):(decide (a<=b)&&decide (b<=c)) = !decide (c<b):=by have:=Ab h;rw[ao];simp;omega
def jN:Sta:=⟨tnil,⟨2,0,0,0,0,0,0,0,0⟩,tnil,tnil,tnil,tnil,tnil,tnil,tnil,tnil,⟨3,0,0,0,0,0,0,64,64⟩,
 ty 1 (Cb 0) 0 0,ty 1 (Cb 0) 0 0,ty 1 (Cb 0) 0 0,ty 1 (Cb 0) 0 0,ty 1 (Cb 0) 0 0,ty 1 (Cb 0) 0 0,ty 1 (Cb 0) 0 0,ty 1 (Cb 0) 0 0⟩
def Hx(w:Bool)(a b:Ty):Int:=if w=ZB/\min a.lo b.lo<a.lo then -1048576 else min a.lo b.lo
def Hw(w:Bool)(a b:Ty):Int:=if w=ZB/\a.hi<max a.hi b.hi then 1048576 else max a.hi b.hi
def ek(w t:Bool)(a b:Ty):Ty:=
 if a.k=0\/b.k=0 then tnil
 else if a.k≠b.k then tscal
 else if a.k=1 then ty 1 (if w=ZB then DJ a.s b.s else jF a.s b.s) 0 0
 else⟨a.k,0,0,0,0,0,0,Hx t a b,Hw t a b⟩
def cP(w:Bool)(a b:Ty):Ty:=ek w w a b
def Mx(w:Bool)(a b:Sta):Sta:=⟨cP w a.r0 b.r0,cP w a.r1 b.r1,cP w a.r2 b.r2,cP w a.r3 b.r3,cP w a.r4 b.r4,cP w a.r5 b.r5,cP w a.r6 b.r6,cP w a.r7 b.r7,cP w a.r8 b.r8,cP w a.r9 b.r9,cP w a.r10 b.r10,
 cP w a.s0 b.s0,cP w a.s1 b.s1,cP w a.s2 b.s2,cP w a.s3 b.s3,cP w a.s4 b.s4,cP w a.s5 b.s5,cP w a.s6 b.s6,cP w a.s7 b.s7⟩
def J2:Sta:=⟨tnil,tnil,tnil,tnil,tnil,tnil,tnil,tnil,tnil,tnil,tnil,tnil,tnil,tnil,tnil,tnil,tnil,tnil,tnil⟩
def iO(w:Bool)(a b:Sta):Sta:=if Az a=ZB/\Az b=ZB then Mx w a b else J2
def FT(a b:Sta):Int:=if Az a=ZB/\Az b=ZB then 0 else 2
def Pf{w:Bool}{a b:Ty}(h:(a.k==0)=ZB):ek w t a b=tnil:=by unfold ek;rw[ae (.inl Xx)]
def Pg{w:Bool}{a b:Ty}(h:(b.k==0)=ZB):ek w t a b=tnil:=by unfold ek;rw[ae (.inr Xx)]
def aoR{w:Bool}{a b:Ty}(h0:(a.k==0)=ZC)(h1:(b.k==0)=ZC)(h2:(a.k==b.k)=ZC):ek w t a b=tscal:=by unfold ek;rw[aa (by simp at h0 h1;simp[h0,h1]),ae XR]
def Pe{w:Bool}{a b:Ty}(h0:(a.k==0)=ZC)(h1:(b.k==0)=ZC)(h2:(a.k==b.k)=ZB)(h3:(a.k==1)=ZB):ek w t a b=ty a.k (if w=ZB then DJ a.s b.s else jF a.s b.s) 0 0:=by
 have e:a.k=1:=by simpa using h3
 unfold ek;rw[aa (by simp at h0 h1;simp[h0,h1]),aa XR,ae e,e]
def FW{w:Bool}{a b:Ty}(h0:(a.k==0)=ZC)(h1:(b.k==0)=ZC)(h2:(a.k==b.k)=ZB)(h3:(a.k==1)=ZC):ek w t a b=⟨a.k,0,0,0,0,0,0,Hx t a b,Hw t a b⟩:=by unfold ek;rw[aa (by simp at h0 h1;simp[h0,h1]),aa XR,aa (by simpa using h3)]
def Ub{a b:Ty}(h:t=ZB)(h2:decide (min a.lo b.lo<a.lo)=ZB):Hx t a b = -1048576:=by unfold Hx;rw[ae ⟨h,Ah h2⟩]
def Uc{a b:Ty}(h2:decide (min a.lo b.lo<a.lo)=ZC):Hx t a b=min a.lo b.lo:=by unfold Hx;rw[aa (fun q=>Ab h2 q.2)]
def arR{a b:Ty}(h:t=ZC):Hx t a b=min a.lo b.lo:=by unfold Hx;rw[aa (fun q=>by rw[h]at q;cases q.1)]
def Ui{a b:Ty}(h:t=ZB)(h2:decide (a.hi<max a.hi b.hi)=ZB):Hw t a b=1048576:=by unfold Hw;rw[ae ⟨h,Ah h2⟩]
def Uj{a b:Ty}(h2:decide (a.hi<max a.hi b.hi)=ZC):Hw t a b=max a.hi b.hi:=by unfold Hw;rw[aa (fun q=>Ab h2 q.2)]
def arW{a b:Ty}(h:t=ZC):Hw t a b=max a.hi b.hi:=by unfold Hw;rw[aa (fun q=>by rw[h]at q;cases q.1)]
def oh{w:Bool}{a b:Sta}(h:Az a=ZB)(h2:Az b=ZB):iO w a b=Mx w a b/\FT a b=0:=⟨ae ⟨h,h2⟩,ae ⟨h,h2⟩⟩
def vN{w:Bool}{a b:Sta}(h:Az a=ZC\/Az b=ZC):iO w a b=J2/\FT a b=2:=by
 have:¬(Az a=ZB/\Az b=ZB):=by rcases h with h|h<;>simp[h]
 exact⟨aa this,aa this⟩
def H5(b:Ty):Bool:=(b.k==tscal.k)&&((b.ul==tscal.ul)&&((b.uh==tscal.uh)&&((b.sl==tscal.sl)&&((b.sh==tscal.sh)&&((b.v==tscal.v)&&((b.m==tscal.m)&&((b.lo==tscal.lo)&&(b.hi==tscal.hi))))))))
def LG(a b:Ty):Bool:=
 if(b.k==0)=ZB then ZB else if(a.k==0)=ZB then ZC else if H5 b=ZB then ZB else if(a.k==b.k)=ZC then ZC
 else if(a.k==1)=ZB then(Nj a.s.r b.s.r&&Lc a.s.k b.s.k)else(decide (b.lo<=a.lo)&&decide (a.hi<=b.hi))
def auN{a b:Ty}(h:(b.k==0)=ZB):LG a b=ZB:=by unfold LG;rw[ae h]
def arO{a b:Ty}(h:(b.k==0)=ZC)(h1:(a.k==0)=ZC)(h2:H5 b=ZB):LG a b=ZB:=by unfold LG;rw[aa X3,aa (by rw[h1];simp),ae h2]
def auM{a b:Ty}(h:(b.k==0)=ZC)(h1:(a.k==0)=ZC)(h2:H5 b=ZC)(h3:(a.k==b.k)=ZB)(h4:(a.k==1)=ZB):LG a b=(Nj a.s.r b.s.r&&Lc a.s.k b.s.k):=by unfold LG;rw[aa X3,aa (by rw[h1];simp),aa (by rw[h2];simp),aa (by rw[h3];simp),ae h4]
def auL{a b:Ty}(h:(b.k==0)=ZC)(h1:(a.k==0)=ZC)(h2:H5 b=ZC)(h3:(a.k==b.k)=ZB)(h4:(a.k==1)=ZC):LG a b=(decide (b.lo<=a.lo)&&decide (a.hi<=b.hi)):=by unfold LG;rw[aa X3,aa (by rw[h1];simp),aa (by rw[h2];simp),aa (by rw[h3];simp),aa (by rw[h4];simp)]
def or_zero(h1:0<=x)(h2:x<=18446744073709551615)(h3:0<=y)(h4:y<=18446744073709551615):(bits .or .u64 x y==0)=((x==0)&&(y==0)):=by
 obtain⟨a,rfl⟩:=cj h1;obtain⟨b,rfl⟩:=cj h3;rw[u64_or_nat a b Fn Fn,ao];simp only[cQ,ne];constructor
 .intro h;have h5:a ||| b=0:=by exact_mod_cast h
  have h6:=Nat.or_eq_zero_iff.1 h5;omega
 .rintro ⟨h,h'⟩;obtain rfl:a=0:=Fn;obtain rfl:b=0:=Fn;rfl
def apK(h:n<=64):(1:Int)<=2 ^ n/\(2:Int) ^ n<=2 ^ 64:=by have h1:(1:Nat)<=2 ^ n:=Nat.one_le_two_pow;have h2:(2:Nat) ^ n<=2 ^ 64:=YU Fn h;exact⟨by exact_mod_cast h1,by exact_mod_cast h2⟩
def uR(x n:Nat)(hn:n<=64)(hx:x<2 ^ 64):x &&& (18446744073709551615-(2 ^ n-1))=0↔x / 2 ^ n=0:=by
 have hp:(2:Nat) ^ n<=2 ^ 64:=YU Fn hn;have hq:1<=(2:Nat) ^ n:=Nat.one_le_two_pow;have e:18446744073709551615-(2 ^ n-1)=2 ^ 64-((2 ^ n-1)+1):=Fn;have As:2 ^ n-1<2 ^ 64:=Fn;constructor
 .intro h;rw[<-Nat.shiftRight_eq_div_pow];apply Nat.eq_of_testBit_eq;intro i;rw[Nat.testBit_shiftRight,Nat.zero_testBit];have h1:=congrArg (fun y=>Nat.testBit y (n+i)) h;simp only[Nat.zero_testBit,Nat.testBit_and,e,Nat.testBit_two_pow_sub_succ As,Nat.testBit_two_pow_sub_one]at h1;by_cases h64:n+i<64
  .by_cases hb:Nat.testBit x (n+i)=ZB
   .exfalso;simp[h64,hb]at h1;omega
   .simpa using hb
  .exact Nat.testBit_lt_two_pow (nr hx (YU Fn Fn))
 .intro h;apply Nat.eq_of_testBit_eq;intro i;rw[Nat.zero_testBit,Nat.testBit_and,e,Nat.testBit_two_pow_sub_succ As,Nat.testBit_two_pow_sub_one];by_cases hi:i<n
  .simp[hi]
  .have h2:Nat.testBit x i=ZC:=by
    have:=congrArg (fun y=>Nat.testBit y (i-n)) (Nat.shiftRight_eq_div_pow x n▸h);simp only[Nat.testBit_shiftRight,Nat.zero_testBit]at this;rwa [show n+(i-n)=i from by omega]at this
   simp[h2]
def oc{x y:Nat}:x ^^^ y=0↔x=y:=by
 constructor
 .intro h;apply Nat.eq_of_testBit_eq;intro i;have:=congrArg (fun z=>Nat.testBit z i) h;simp only[Nat.testBit_xor,Nat.zero_testBit]at this;cases hx:Nat.testBit x i<;>cases hy:Nat.testBit y i<;>simp_all
 .rintro rfl;simp
def acj(lo hi:Int)(n:Nat)(hn:n<=64)(h1:0<=lo)(h2:lo<=18446744073709551615)(h3:0<=hi)(h4:hi<=18446744073709551615):
  bits .andNot .u64 (bits .xor .u64 lo hi) (2 ^ n-1)=0↔lo / 2 ^ n=hi / 2 ^ n:=by
 obtain⟨a,rfl⟩:=cj h1;obtain⟨b,rfl⟩:=cj h3;have hp:(2:Nat) ^ n<=2 ^ 64:=YU Fn hn;have hq:1<=(2:Nat) ^ n:=Nat.one_le_two_pow;have ha:a<2 ^ 64:=Fn;have hb:b<2 ^ 64:=Fn;have hxl:a ^^^ b<2 ^ 64:=Nat.xor_lt_two_pow ha hb;have hm:((2:Int) ^ n-1)=((2 ^ n-1:Nat):Int):=by rw[Int.ofNat_sub hq];simp
 rw[u64_xor_nat a b Fn Fn,hm,u64_andNot_nat (a ^^^ b) (2 ^ n-1) Fn Fn];rw[show((2:Int) ^ n)=((2 ^ n:Nat):Int)from by simp];constructor
 .intro h;have h5:=(uR (a ^^^ b) n hn hxl).1 (by exact_mod_cast h);rw[<-Nat.shiftRight_eq_div_pow,Nat.shiftRight_xor_distrib,oc,Nat.shiftRight_eq_div_pow,Nat.shiftRight_eq_div_pow]at h5
  exact_mod_cast h5
 .intro h;have h5:a / 2 ^ n=b / 2 ^ n:=by exact_mod_cast h
  have h6:=(uR (a ^^^ b) n hn hxl).2 (by rw[<-Nat.shiftRight_eq_div_pow,Nat.shiftRight_xor_distrib,oc,Nat.shiftRight_eq_div_pow,Nat.shiftRight_eq_div_pow];exact h5)
  exact_mod_cast h6
structure Rw(P:Program)(t:TypeId)(ks:List CE):Prop where
 cells:P.cellsOf t=ks.length
 opn:∀{H:Type} {enc:TypeId×Value->H} {W:World} {sp:Nat->Bool} {hd:Bool} {fuel:Nat} {cs:List Value} {d:DataW H×List MemPlace},
  DataW.trod enc P W 0 sp hd fuel t cs=ZA d->∃r,cs=Bm ks r/\az ks r=ZB
def xk{k:IntKind}(h:(Lit.int k x).wf=ZB):Ae k x=ZB:=by simp only[Lit.wf,ne,aE]at h;rw[bF];exact h
def Rw.int{t:TypeId}(k:IntKind)(ht:P.underlying t=ZA (.int k))(hc:P.cellsOf t=1):Rw P t [ZA k] where
 cells:=hc
 opn:=fun h=>by obtain⟨x,h1,_,h2⟩:=DataW.trod_int ht h;exact⟨[x],h1,by simp[az,Dp,xk h2]⟩
def Rw.bool{t:TypeId}(ht:P.underlying t=ZA .bool)(hc:P.cellsOf t=1):Rw P t [ZE] where
 cells:=hc
 opn:=fun h=>by obtain⟨x,h1,_⟩:=DataW.trod_bool ht h;exact⟨[AD x],by cases x<;>exact h1,by cases x<;>rfl⟩
def tU:∀{ks ks':List CE} {r r':List Int},az ks r=ZB->Bm (ks++ks') (r++r')=Bm ks r++Bm ks' r'
 |[],ks',[],r',_=>rfl
 |k::ks,ks',x::r,r',h=>by simp only[az,ne]at h;simp only[YO,Bm,tU h.2]
def qb:∀{ks ks':List CE} {r r':List Int},az ks r=ZB->az ks' r'=ZB->az (ks++ks') (r++r')=ZB
 |[],ks',[],r',_,h=>h
 |k::ks,ks',x::r,r',h,h'=>by simp only[az,ne]at h;simp only[YO,az,h.1,qb h.2 h',Bool.and_self]
structure RwSeq(P:Program)(off:Nat)(fs:List Field)(ks:List CE):Prop where
 opn:∀{H:Type} {enc:TypeId×Value->H} {W:World} {sp:Nat->Bool} {hd:Bool} {n:Nat} {cs:List Value},
  (∀f∈fs,∃y,DataW.trod enc P W 0 sp hd n f.type ((cs.drop f.offset).take (P.cellsOf f.type))=ZA y)->cs.length=off+ks.length->∃r,cs.drop off=Bm ks r/\az ks r=ZB
def RwSeq.nil(P:Program)(off:Nat):RwSeq P off [] []:=⟨fun _ hl=>⟨[],List.drop_eq_nil_of_le (by simp at hl;omega),rfl⟩⟩
def RwSeq.cons{off:Nat}{f:Field}{fs:List Field}{ks':List CE}(r:Rw P f.type ks)(ho:f.offset=off)(s:RwSeq P (off+ks.length) fs ks'):RwSeq P off (f::fs) (ks++ks'):=⟨fun {H} {enc} {W} {sp} {hd} {n} {cs} h hl=>by
  obtain⟨y,hy⟩:=h f (by simp);rw[r.cells,ho]at hy;obtain⟨a,ha,CX⟩:=r.opn hy;obtain⟨b,hb,Ex⟩:=s.opn (fun g hg=>h g (by simp[hg])) (by simp at hl;omega);refine⟨a++b,?_,qb CX Ex⟩;rw[tU CX,<-ha,<-hb,<-List.drop_drop,List.take_append_drop]⟩
def Rw.struct{t:TypeId}{fs:Array Field}(s:RwSeq P 0 fs.toList ks)(ht:P.underlying t=ZA (.struct fs))(hc:P.cellsOf t=ks.length):Rw P t ks where
 cells:=hc
 opn:=fun {H} {enc} {W} {sp} {hd} {fuel} {cs} {d} h=>by
  obtain⟨xs,n,_,_,hl,AZ,hf⟩:=DataW.trod_struct ht h;have:=s.opn (enc:=enc) (W:=W) (sp:=sp) (hd:=hd) (n:=n) (cs:=cs) (fun f hm=>by
   obtain⟨i,hi,he⟩:=List.getElem_of_mem hm;have Bg:i<fs.size:=XS;have h1:=hf i f (by rw[Array.getElem?_eq_getElem Bg];simpa using congrArg ZA he);rw[AH Fn]at h1;exact⟨_,h1⟩) Fn
  simpa using this
def abK{α:Type}{Q:Nat->α->Prop}(h:∀i,i<n->∃x,Q i x):∃l:List α,l.length=n/\∀i x,l[i]? =ZA x->Q i x:=by
 induction n with
 |zero=>exact⟨[],rfl,by simp⟩
 |succ n ih=>
   obtain⟨l,hl,hq⟩:=ih (fun i hi=>h i Fn);obtain⟨x,hx⟩:=h n Fn;refine⟨l++[x],by simp[hl],fun i y hy=> ?_⟩;rw[List.getElem?_append]at hy;split at hy
   .exact hq i y hy
   .have:i=n:=by
     rcases bC (i-l.length) 1 with h1|h1
     .exact Fn
     .rw[cn XC]at hy;cases hy
    subst this;have:i-l.length=0:=Fn;rw[this]at hy;simp at hy;subst hy;exact hx
def acm{W:World}{a:Addr}{cs:List Value}(h:W.cells? 0 a n=ZA cs)(hn:0<n):a.block<W.heap.size/\a.spot=ZE:=by
 obtain⟨_,AZ,Dx⟩:=World.cells?_some h;have h0:=Dx 0 hn;rw[AH Fn]at h0;obtain⟨b,off,spot⟩:=a;have hs:spot=ZE:=by
  cases spot with
  |none=>rfl
  |some s=>exfalso;simp[Addr.add,World.cell?]at h0;split at h0<;>simp at h0
 subst hs;refine⟨?_,rfl⟩;rcases bC b W.heap.size with h1|h1
 .exact h1
 .simp[Addr.add,World.cell?,Array.getElem?_eq_none h1]at h0
def vM{t e:TypeId}(r:Rw P e ks)(Ei:0<ks.length)(ht:P.underlying t=ZA (.slice e)){H:Type}{enc:TypeId×Value->H}{W:World}{hd:Bool}{v:Value}{d:DataW H}{p:List MemPlace}{rc:Reach}{b0:Nat}(hv:Value.okWide P W rc b0 t v)(h:DataW.Trod enc P W 0 (fun _=>ZB) hd t v d p):∃L s,v=s.v/\s.n=L.length/\RdRow W ks.length s (flat ks L)/\RowsIn ks L/\∀k,s.blk ZC=ZA k->k<W.heap.size:=by
 obtain⟨fuel,hf⟩:=h;obtain⟨a0,H0,JB,rfl⟩:=okWide_slice ht hv;have CS:(Value.slice a0 H0 JB).cells.toList=[.slice a0 H0 JB]:=rfl;rw[CS]at hf;rcases Go.Deep.open_slice ht hf with⟨h1,_⟩|⟨a,len,Hp,m,n,D,Pl,h1,_,hl,hm,hmm,_,Oy⟩
 .simp only[Be,Value.slice.injEq,and_true]at h1;obtain⟨rfl,rfl,rfl⟩:=h1;exact⟨[],⟨ZE,0,0,[]⟩,rfl,rfl,⟨by simp[flat],Nat.le_refl _,by simp[maxLen],fun _=>⟨rfl,rfl⟩,fun a ha=>(by cases ha)⟩,⟨fun r hr=>(by cases hr),by simp⟩,fun k hk=>by have:=ay hk;cases this⟩
 .simp only[Be,Value.slice.injEq,and_true]at h1;obtain⟨rfl,rfl,rfl⟩:=h1;have hmc:m=JB:=by rw[hmm];rfl
  subst hmc;rw[r.cells]at Oy;have key:∀i,i<H0->∃x,W.cells? 0 (a.add (i*ks.length)) ks.length=ZA (Bm ks x)/\az ks x=ZB:=fun i hi=>by obtain⟨Gv,h1,h2⟩:=Oy i Fn;obtain⟨x,hx,F9⟩:=r.opn h2;exact⟨x,by rw[<-hx];exact h1,F9⟩
  obtain⟨L,hL,hq⟩:=abK key;have AW:∀x∈L,az ks x=ZB:=fun x hx=>by obtain⟨i,hi,he⟩:=List.getElem_of_mem hx;exact(hq i x (by rw[AH hi,he])).2
  refine⟨L,⟨ZA a,H0,m,[]⟩,rfl,hL.symm,⟨?_,hl,hm,fun ha=>(by cases ha),fun a' CX i u hu=> ?_⟩,⟨AW,by rw[hL];exact dd hl hm⟩,fun k hk=> ?_⟩
  .rw[bw AW,hL]
  .cases CX;have As:i<(flat ks L).length:=(cZ.1 hu).1;rw[bw AW]at As;have hi:i / ks.length<L.length:=Nat.div_lt_of_lt_mul (by rw[Nat.mul_comm];exact As);have hc:i % ks.length<ks.length:=Nat.mod_lt _ Ei;have e1:i=i / ks.length*ks.length+i % ks.length:=by rw[Nat.mul_comm];exact(Nat.div_add_mod _ _).symm
   rw[e1,mR (AH hc) AW hi]at hu;obtain⟨q1,q2⟩:=hq (i / ks.length) L[i / ks.length] (AH hi);obtain⟨_,AZ,Dx⟩:=World.cells?_some q1;have h3:=Dx (i % ks.length) hc;rw[oO q2 (AH hc)]at h3;have hg:L.getD (i / ks.length) []=L[i / ks.length]:=by rw[bZ,AH hi];rfl
   rw[hg]at hu;rw[e1,<-bS,h3];exact hu
  .have hc:m≠0:=fun hc=>by
    unfold SV.blk at hk;simp[hc]at hk
   obtain⟨Gv,h1,h2⟩:=Oy 0 Fn;have h4:=acm h1 Ei;have h5:=ay hk;simp only[SV.v,Value.ownBlock,bo]at h5;rw[<-h5];have:(a.add (0*ks.length)).block=a.block:=YE;rw[<-this];exact h4.1
def aZ{U U':Env}{m:Nat}(h:Ag m U U'):∀(vks:List VK) (n:Nat),n+vks.length<=m->varsD U' n vks=varsD U n vks
 |[],_,_=>rfl
 |k::vks,n,hn=>by simp only[List.length_cons]at hn;have h1:=h n Fn;simp only[varsD,aZ h vks (n+1) Fn];congr 1;cases k<;>simp only[varD,h1.1,h1.2.1,h1.2.2]
def adZ{a b:Rg}(ha:a.wf)(hb:b.wf)(ma:AT a=ZB)(mb:AT b=ZB)(hc:Bw cc a b=ZB):(BU cc a b).wf:=by
 rw[dr]at ma mb;have sv:=ge b.ul;obtain⟨a1,a2,a3,a4⟩:=ha;obtain⟨b1,b2,b3,b4⟩:=hb;unfold Bw at hc;unfold BU;generalize B0 b.ul=t at *;by_cases c1:cc=1
 .rw[ae c1]at hc ⊢;by_cases hs:ey b=ZB
  .rw[ae hs]at hc ⊢;simp only[ne,ZO,mi]at hc;refine⟨?_,?_,?_,?_⟩<;>simp only<;>split<;>omega
  .rw[aa hs];exact⟨a1,a2,a3,a4⟩
 rw[aa c1]at hc ⊢;by_cases c2:cc=2
 .rw[ae c2]at hc ⊢;simp only[ZO,mi]at hc;exact⟨by simp only;omega,a2,a3,a4⟩
 rw[aa c2]at hc ⊢;by_cases c3:cc=3
 .rw[ae c3];exact⟨by simp only;omega,a2,a3,a4⟩
 rw[aa c3];by_cases c4:cc=4
 .rw[ae c4]at hc ⊢;simp only[ZO,mi]at hc;exact⟨a1,by simp only;omega,a3,a4⟩
 rw[aa c4]at hc ⊢;by_cases c5:cc=5
 .rw[ae c5];exact⟨a1,by simp only;omega,a3,a4⟩
 rw[aa c5];by_cases c6:cc=6
 .rw[ae c6]at hc ⊢;simp only[ZO,mi]at hc;exact⟨a1,a2,by simp only;omega,a4⟩
 rw[aa c6]at hc ⊢;by_cases c7:cc=7
 .rw[ae c7];exact⟨a1,a2,by simp only;omega,a4⟩
 rw[aa c7];by_cases c8:cc=8
 .rw[ae c8]at hc ⊢;simp only[ZO,mi]at hc;exact⟨a1,a2,a3,by simp only;omega⟩
 rw[aa c8];by_cases c9:cc=9
 .rw[ae c9];exact⟨a1,a2,a3,by simp only;omega⟩
 rw[aa c9];exact⟨a1,a2,a3,a4⟩
def zs(v w:Int):Int:=wrap64 (eM (Ap v w) w)
def lW(cc w a b:Int):Bool:=
 if cc=0 then Ap a w==Ap b w
 else if cc=1 then Ap a w != Ap b w
 else if cc=2 then decide (Ap b w<Ap a w)
 else if cc=3 then decide (Ap b w<=Ap a w)
 else if cc=4 then decide (Ap a w<Ap b w)
 else if cc=5 then decide (Ap a w<=Ap b w)
 else if cc=6 then decide (zs b w<zs a w)
 else if cc=7 then decide (zs b w<=zs a w)
 else if cc=8 then decide (zs a w<zs b w)
 else if cc=9 then decide (zs a w<=zs b w)
 else bits .and .u64 (Ap a w) (Ap b w) != 0
def alM(h4:0<=op)(h5:op<=10):op=0\/op=1\/op=2\/op=3\/op=4\/op=5\/op=6\/op=7\/op=8\/op=9\/op=10:=by omega
def arC(v:Int):zs v 64=B0 v:=by simp[zs,Ap,eM]
def xN(h:lW cc 64 v w=ZB):zK cc v w=ZB:=by
 unfold lW at h;rw[dQ,dQ,arC,arC]at h;unfold zK;by_cases c0:cc=0
 .rw[ae c0]at h ⊢;simpa using h
 rw[aa c0]at h ⊢;by_cases c1:cc=1
 .rw[ae c1]at h ⊢;simpa using h
 rw[aa c1]at h ⊢;by_cases c2:cc=2
 .rw[ae c2]at h ⊢;exact h
 rw[aa c2]at h ⊢;by_cases c3:cc=3
 .rw[ae c3]at h ⊢;exact h
 rw[aa c3]at h ⊢;by_cases c4:cc=4
 .rw[ae c4]at h ⊢;exact h
 rw[aa c4]at h ⊢;by_cases c5:cc=5
 .rw[ae c5]at h ⊢;exact h
 rw[aa c5]at h ⊢;by_cases c6:cc=6
 .rw[ae c6]at h ⊢;exact h
 rw[aa c6]at h ⊢;by_cases c7:cc=7
 .rw[ae c7]at h ⊢;exact h
 rw[aa c7]at h ⊢;by_cases c8:cc=8
 .rw[ae c8]at h ⊢;exact h
 rw[aa c8]at h ⊢;by_cases c9:cc=9
 .rw[ae c9]at h ⊢;exact h
 rw[aa c9]
def alR{a b:Rg}(h:CI cc a b=ZB):jy cc a b=ZB:=by unfold CI at h;rw[ne]at h;exact h.1
def aqY{a b:Rg}(ha:a.wf)(hb:b.wf)(v0:0<=v)(v1:v<=18446744073709551615)(w0:0<=w)(w1:w<=18446744073709551615)(h1:AF a v=ZB)(h2:AF b w=ZB)(c0:0<=cc)(c1:cc<=10)(hy:zK cc v w=ZB):CI cc a b=ZB/\AF (C4 cc a b) v=ZB:=by
 have hg:jy cc a b=ZB:=by unfold jy;rw[dc h1,dc h2,dm c0,dm c1];rfl
 by_cases c:cc=0
 .have e:v=w:=by
   unfold zK at hy;rw[ae c]at hy;exact Ah hy
  subst e;have hm:=abY ha hb v0 v1 h2;rw[h1]at hm;have hm:=hm.symm;rw[ne]at hm;have hk:CI cc a b=ZB:=by unfold CI;rw[hg,ae c,hm.1];rfl
  refine⟨hk,?_⟩;unfold C4;rw[ae hk,ae c];exact hm.2
 .have hr:=apC v0 v1 w0 w1 hb h1 h2 hy c;have hw:=adZ ha hb (dc h1) (dc h2) hr.1;have hn:=uO hw v0 v1 hr.2;have hk:CI cc a b=ZB:=by
   unfold CI;rw[hg,aa c,hr.1,hn];rfl
  refine⟨hk,?_⟩;unfold C4;rw[ae hk,aa c,qT hw v0 v1 hn];exact hr.2
def tb(x:Int)(i:Nat):Bool:=(ZL 64 x).getLsbD i
def mX(h0:0<=x)(h1:x<=18446744073709551615):((ZL 64 x).toNat:Int)=x:=by rw[BitVec.toNat_ofInt];omega
def aue(h0:0<=x)(h1:x<=18446744073709551615)(h2:0<=y)(h3:y<=18446744073709551615)(h:ZL 64 x=ZL 64 y):x=y:=by rw[<-mX h0 h1,<-mX h2 h3,h]
def TD(hx:0<=x/\x<=18446744073709551615)(hy:0<=y/\y<=18446744073709551615)(h:∀i,i<64->tb x i=tb y i):x=y:=aue hx.1 hx.2 hy.1 hy.2 (BitVec.eq_of_getLsbD_eq fun i hi=>h i hi)
def dp(x:Int):ZL 64 (ZG .u64 x)=ZL 64 x:=by apply BitVec.eq_of_toNat_eq;rw[BitVec.toNat_ofInt,BitVec.toNat_ofInt,aW];omega
def T8(x:BitVec 64):ZL 64 (x.toNat:Int)=x:=by simp
def auf(x y:Int):ZL 64 (bits .and .u64 x y)=ZL 64 x &&& ZL 64 y:=(dp _).trans (T8 _)
def aud(x y:Int):ZL 64 (bits .or .u64 x y)=ZL 64 x ||| BitVec.ofInt 64 y:=(dp _).trans (T8 _)
def auc(x y:Int):ZL 64 (bits .xor .u64 x y)=ZL 64 x ^^^ ZL 64 y:=(dp _).trans (T8 _)
def aiV(x y:Int):ZL 64 (bits .andNot .u64 x y)=ZL 64 x &&& ~~~ ZL 64 y:=(dp _).trans (T8 _)
def jK(x y:Int)(i:Nat):tb (bits .and .u64 x y) i=(tb x i&&tb y i):=by unfold tb;rw[auf,BitVec.getLsbD_and]
def fJ(x y:Int)(i:Nat):tb (bits .or .u64 x y) i=(tb x i||tb y i):=by unfold tb;rw[aud,BitVec.getLsbD_or]
def ml(x y:Int)(i:Nat):tb (bits .xor .u64 x y) i=(tb x i ^^ tb y i):=by unfold tb;rw[auc,BitVec.getLsbD_xor]
def cE(x y:Int)(hi:i<64):tb (bits .andNot .u64 x y) i=(tb x i &&!tb y i):=by unfold tb;rw[aiV,BitVec.getLsbD_and,BitVec.getLsbD_not];simp[hi]
def ij(i:Nat):tb 0 i=ZC:=by unfold tb;simp
def aoW(hi:i<64):tb 18446744073709551615 i=ZB:=by unfold tb;rw[show ZL 64 18446744073709551615=BitVec.allOnes 64 from by decide,BitVec.getLsbD_allOnes];exact dm hi
def yh(hx:0<=x/\x<=18446744073709551615)(hy:0<=y/\y<=18446744073709551615):(x==y)=ZB↔∀i,i<64->tb x i=tb y i:=by rw[cQ];exact⟨fun h i _=>by rw[h],TD hx hy⟩
def nh:(0:Int)<=0/\(0:Int)<=18446744073709551615:=by omega
def eV(a:Kn):Bz a=ZB↔∀i,i<64->(tb a.v i&&tb a.m i)=ZC:=by unfold Bz;rw[yh (iK _ _) nh];simp only[jK,ij]
def bk{a:Kn}(ha:a.wf)(x:Int):AX a x=ZB↔∀i,i<64->(tb a.v i&&tb a.m i)=ZC/\(tb x i &&!tb a.m i)=tb a.v i:=by
 unfold AX;rw[ne,eV,yh (ez _ _) ha.1];constructor
 .rintro ⟨h1,h2⟩ i hi;exact⟨h1 i hi,by have:=h2 i hi;rwa [cE _ _ hi]at this⟩
 .intro h;exact⟨fun i hi=>(h i hi).1,fun i hi=>by rw[cE _ _ hi];exact(h i hi).2⟩
def ahH{a b:Kn}(hb:b.wf):Lc a b=ZB↔∀i,i<64->(tb a.v i&&tb a.m i)=ZC/\(tb b.v i&&tb b.m i)=ZC/\(tb a.m i||tb b.m i)=tb b.m i/\(tb a.v i &&!tb b.m i)=tb b.v i:=by
 unfold Lc;rw[ne,ne,ne,eV,eV,yh (iT _ _) hb.2,yh (ez _ _) hb.1];constructor
 .rintro ⟨h1,h2,h3,h4⟩ i hi;exact⟨h1 i hi,h2 i hi,by have:=h3 i hi;rwa [fJ]at this,by have:=h4 i hi;rwa [cE _ _ hi]at this⟩
 .intro h;exact⟨fun i hi=>(h i hi).1,fun i hi=>(h i hi).2.1,fun i hi=>by rw[fJ];exact(h i hi).2.2.1,fun i hi=>by rw[cE _ _ hi];exact(h i hi).2.2.2⟩
def ahA(a b:Kn):(zh a b==0)=ZB↔∀i,i<64->((tb a.v i ^^ tb b.v i) &&!(tb a.m i||tb b.m i))=ZC:=by
 unfold zh;rw[yh (ez _ _) nh];constructor
 .intro h i hi;have:=h i hi;rwa [cE _ _ hi,ml,fJ,ij]at this
 .intro h i hi;rw[cE _ _ hi,ml,fJ,ij];exact h i hi
def rW(a b:Kn):eJ a b=ZB↔∀i,i<64->(tb a.v i&&tb a.m i)=ZC/\(tb b.v i&&tb b.m i)=ZC/\((tb a.v i ^^ tb b.v i) &&!(tb a.m i||tb b.m i))=ZC:=by unfold eJ;rw[ne,ne,eV,eV,ahA];exact⟨fun h i hi=>⟨h.1 i hi,h.2.1 i hi,h.2.2 i hi⟩,fun h=>⟨fun i hi=>(h i hi).1,fun i hi=>(h i hi).2.1,fun i hi=>(h i hi).2.2⟩⟩
def xe(v m:Int):Bz (kj v m)=ZB:=by rw[eV];intro i hi;show(tb (bits .andNot .u64 v m) i&&tb m i)=ZC;rw[cE _ _ hi];cases tb v i<;>cases tb m i<;>rfl
def akQ:Bz kall=ZB:=by rw[eV];intro i hi;show(tb 0 i&&_)=ZC;rw[ij];rfl
def mO(x:Int):AX kall x=ZB:=by rw[bk jC];intro i hi;show(tb 0 i&&tb 18446744073709551615 i)=ZC/\(tb x i &&!tb 18446744073709551615 i)=tb 0 i;rw[ij,aoW hi];simp
def uA(h:0<=v/\v<=18446744073709551615):AX (Ep v) v=ZB:=by rw[bk (sZ h)];intro i hi;show(tb v i&&tb 0 i)=ZC/\(tb v i &&!tb 0 i)=tb v i;rw[ij];simp
def TE(h0:0<=x)(h1:x<=18446744073709551615)(hw:w=32\/w=64)(hi:i<64):tb (Ap x w) i=(decide ((i:Int)<w)&&tb x i):=by
 rcases hw with rfl|rfl
 .rw[dR];obtain⟨n,rfl⟩:=cj h0;unfold tb;rw[show((n:Int) % 4294967296)=((n % 2 ^ 32:Nat):Int)from by omega,BitVec.ofInt_natCast,BitVec.ofInt_natCast,BitVec.getLsbD_ofNat,BitVec.getLsbD_ofNat,Nat.testBit_mod_two_pow];have e:decide ((i:Int)<32)=decide (i<32):=by rw[ao];simp;omega
  rw[e];cases decide (i<64)<;>cases decide (i<32)<;>simp
 .rw[dQ];simp[show(i:Int)<64 from by omega]
def asT{a:Kn}(h:Bz a=ZB)(w:Int):B5 a w=⟨Ap a.v w,Ap a.m w⟩:=by simp[B5,h]
def kR{a:Kn}(h:AX a x=ZB):Bz a=ZB:=by unfold AX at h;rw[ne]at h;exact h.1
def oU{a:Kn}(ha:a.wf)(hx:0<=x/\x<=18446744073709551615)(h:AX a x=ZB)(hw:w=32\/w=64):AX (B5 a w) (Ap x w)=ZB:=by rw[bk (jB ha w),asT (kR h)];intro i hi;have:=(bk ha x).1 h i hi;show(tb (Ap a.v w) i&&tb (Ap a.m w) i)=ZC/\(tb (Ap x w) i &&!tb (Ap a.m w) i)=tb (Ap a.v w) i;rw[TE ha.1.1 ha.1.2 hw hi,TE ha.2.1 ha.2.2 hw hi,TE hx.1 hx.2 hw hi];revert this;cases tb a.v i<;>cases tb a.m i<;>cases tb x i<;>cases decide ((i:Int)<w)<;>simp
def ahy{a:Nat}(h:∀j,a.testBit j=ZB->b.testBit j=ZB):a<=b:=by
 have:a &&& b=a:=by
  apply Nat.eq_of_testBit_eq;intro j;rw[Nat.testBit_and];cases ha:a.testBit j
  .rfl
  .rw[h j ha];rfl
 rw[<-this];exact Nat.and_le_right
def Sub64(x y:BitVec 64):Prop:=∀i,x.getLsbD i=ZB->y.getLsbD i=ZB
def Sub64.mod{x y:BitVec 64}(h:Sub64 x y)(i:Nat):x.toNat % 2 ^ i<=y.toNat % 2 ^ i:=by apply ahy;intro j hj;rw[Nat.testBit_mod_two_pow]at hj ⊢;simp only[ne]at hj ⊢;exact⟨hj.1,h j hj.2⟩
def sI{x x' y y':BitVec 64}(hx:Sub64 x x')(hy:Sub64 y y')(i:Nat)(h:BitVec.carry i x y ZC=ZB):BitVec.carry i x' y' ZC=ZB:=by have h1:=hx.mod i;have h2:=hy.mod i;simp only[BitVec.carry,aE,Bool.toNat_false]at h ⊢;omega
def KB(i:Nat)(x y:BitVec 64):Bool:=decide (x.toNat % 2 ^ i<y.toNat % 2 ^ i)
def o8{x x' y y':BitVec 64}(hx:Sub64 x' x)(hy:Sub64 y y')(i:Nat)(h:KB i x y=ZB):KB i x' y'=ZB:=by have h1:=hx.mod i;have h2:=hy.mod i;simp only[KB,aE]at h ⊢;omega
def gW(x y:BitVec 64)(hi:i<64):(x-y).getLsbD i=(x.getLsbD i ^^ (y.getLsbD i ^^ KB i x y)):=by
 have e:x=(x-y)+y:=by rw[BitVec.sub_add_cancel]
 have h1:=congrArg (fun z=>z.getLsbD i) e;simp only[BitVec.getLsbD_add hi]at h1;have hc:BitVec.carry i (x-y) y ZC=KB i x y:=by
  have hp:0<2 ^ i:=Nat.two_pow_pos i;have hd:(2:Nat) ^ 64=2 ^ i*2 ^ (64-i):=by rw[<-Nat.pow_add];congr 1;omega
  have ht:(x-y).toNat % 2 ^ i=(x.toNat % 2 ^ i+(2 ^ i-y.toNat % 2 ^ i)) % 2 ^ i:=by
   rw[BitVec.toNat_sub,hd,Nat.mod_mul_right_mod];have hy:=y.isLt;have hq:=Nat.div_add_mod y.toNat (2 ^ i);have GQ:y.toNat / 2 ^ i<2 ^ (64-i):=by rw[Nat.div_lt_iff_lt_mul hp,Nat.mul_comm,<-hd];exact hy
   obtain⟨k,hk⟩:∃k,2 ^ (64-i)=y.toNat / 2 ^ i+1+k:=⟨2 ^ (64-i)-(y.toNat / 2 ^ i+1),by omega⟩
   have As:y.toNat % 2 ^ i<2 ^ i:=Nat.mod_lt _ hp;have e2:2 ^ i*2 ^ (64-i)-y.toNat=(2 ^ i-y.toNat % 2 ^ i)+2 ^ i*k:=by rw[hk,Nat.mul_add,Nat.mul_add,Nat.mul_one];omega
   rw[e2];have hx:=Nat.div_add_mod x.toNat (2 ^ i);rw[show 2 ^ i-y.toNat % 2 ^ i+2 ^ i*k+x.toNat=(x.toNat % 2 ^ i+(2 ^ i-y.toNat % 2 ^ i))+2 ^ i*(k+x.toNat / 2 ^ i)from by rw[Nat.mul_add];omega];rw[Nat.add_mul_mod_self_left]
  have hxl:x.toNat % 2 ^ i<2 ^ i:=Nat.mod_lt _ hp;have MY:y.toNat % 2 ^ i<2 ^ i:=Nat.mod_lt _ hp;simp only[BitVec.carry,KB,ht,Bool.toNat_false];generalize 2 ^ i=d at *;generalize x.toNat % d=r at *;generalize y.toNat % d=s at *;rw[decide_eq_decide];by_cases hrs:r<s
  .rw[Nat.mod_eq_of_lt Fn];omega
  .rw[show r+(d-s)=(r-s)+d from by omega,Nat.add_mod_right,Nat.mod_eq_of_lt Fn];omega
 rw[hc]at h1;rw[h1];cases(x-y).getLsbD i<;>cases y.getLsbD i<;>cases KB i x y<;>rfl
def Among(V M p:BitVec 64):Prop:=∀i,i<64->(V.getLsbD i&&M.getLsbD i)=ZC/\(p.getLsbD i &&!M.getLsbD i)=V.getLsbD i
def Among.low{V p:BitVec 64}(h:Among V M p):Sub64 V p:=by intro i hi;have hl:=BitVec.lt_of_getLsbD hi;have:=h i hl;revert this;rw[hi];cases M.getLsbD i<;>cases p.getLsbD i<;>simp
def Among.high{V p:BitVec 64}(h:Among V M p):Sub64 p (V ||| M):=by intro i hi;have hl:=BitVec.lt_of_getLsbD hi;have:=h i hl;revert this;rw[BitVec.getLsbD_or,hi];cases M.getLsbD i<;>cases V.getLsbD i<;>simp
def Among.at{V p:BitVec 64}(h:Among V M p)(hi:i<64)(hm:M.getLsbD i=ZC):p.getLsbD i=V.getLsbD i:=by have:=(h i hi).2;rw[hm]at this;simpa using this
def Among.or{V p:BitVec 64}(h:Among V M p):V+M=V ||| M:=by apply BitVec.add_eq_or_of_and_eq_zero;apply BitVec.eq_of_getLsbD_eq;intro i hi;rw[BitVec.getLsbD_and,(h i hi).1];simp
def arv{V p W N q:BitVec 64}(h1:Among V M p)(h2:Among W N q)(hi:i<64)(hm:M.getLsbD i=ZC)(hn:N.getLsbD i=ZC)(he:(M+N+(V+W)).getLsbD i=(V+W).getLsbD i):
  (p+q).getLsbD i=(V+W).getLsbD i:=by
 have e:M+N+(V+W)=(V ||| M)+(W ||| N):=by rw[<-h1.or,<-h2.or];ac_rfl
 rw[e,BitVec.getLsbD_add hi,BitVec.getLsbD_add hi,BitVec.getLsbD_or,BitVec.getLsbD_or,hm,hn,bn,bn]at he;have m1:=sI h1.low h2.low i;have m2:=sI h1.high h2.high i;rw[BitVec.getLsbD_add hi,BitVec.getLsbD_add hi,h1.at hi hm,h2.at hi hn];revert he m1 m2;cases BitVec.carry i V W ZC<;>cases BitVec.carry i p q ZC<;>cases BitVec.carry i (V ||| M) (W ||| N) ZC<;>cases V.getLsbD i<;>cases W.getLsbD i<;>simp
def ao1{V p W N q:BitVec 64}(h1:Among V M p)(h2:Among W N q)(hi:i<64)(hm:M.getLsbD i=ZC)(hn:N.getLsbD i=ZC)(he:(V-W+M).getLsbD i=(V-W-N).getLsbD i):
  (p-q).getLsbD i=(V-W).getLsbD i:=by
 have e1:V-W+M=(V ||| M)-W:=by rw[<-h1.or];simp only[BitVec.sub_eq_add_neg];ac_rfl
 have e2:V-W-N=V-(W ||| N):=by rw[<-h2.or];simp only[BitVec.sub_eq_add_neg,BitVec.neg_add];ac_rfl
 rw[e1,e2,gW _ _ hi,gW _ _ hi,BitVec.getLsbD_or,BitVec.getLsbD_or,hm,hn,bn,bn]at he;have m1:=o8 (x:=V ||| M) (x':=p) (y:=W) (y':=q) h1.high h2.low i;have m2:=o8 (x:=p) (x':=V) (y:=q) (y':=W ||| N) h1.low h2.high i;have m3:=o8 (x:=V ||| M) (x':=V) (y:=W) (y':=W) (fun j hj=>by rw[BitVec.getLsbD_or,hj];rfl) (fun _ h=>h) i;have m4:=o8 (x:=V) (x':=V) (y:=W) (y':=W ||| N) (fun _ h=>h) (fun j hj=>by rw[BitVec.getLsbD_or,hj];rfl) i;rw[gW _ _ hi,gW _ _ hi,h1.at hi hm,h2.at hi hn];revert he m1 m2 m3 m4;cases KB i V W<;>cases KB i p q<;>cases KB i (V ||| M) W<;>cases KB i V (W ||| N)<;>cases V.getLsbD i<;>cases W.getLsbD i<;>simp
def ng{a:Kn}(ha:a.wf)(h:AX a x=ZB):Among (ZL 64 a.v) (ZL 64 a.m) (ZL 64 x):=(bk ha x).1 h
def aqk{a b:Kn}(ha:a.wf)(hb:b.wf){p q:Int}(hp:AX a p=ZB)(hq:AX b q=ZB)(hi:i<64)(hm:tb (JU a b).m i=ZC):
  tb a.m i=ZC/\tb b.m i=ZC/\tb (p+q) i=tb (a.v+b.v) i:=by
 have Hs:tb (bits .or .u64 (bits .or .u64 (bits .xor .u64 (ZG .u64 (a.v+b.v)) (ZG .u64 (ZG .u64 (a.m+b.m)+ZG .u64 (a.v+b.v)))) a.m) b.m) i=ZC:=hm;rw[fJ,fJ,ml]at Hs;simp only[Bool.or_eq_false_iff]at Hs;obtain⟨⟨h1,h2⟩,h3⟩:=Hs;refine⟨h2,h3,?_⟩;have:=arv (ng ha hp) (ng hb hq) hi h2 h3 (by
  unfold tb at h1;rw[dp,dp,BitVec.ofInt_add,BitVec.ofInt_add,dp,dp,BitVec.ofInt_add,BitVec.ofInt_add]at h1;revert h1;cases(ZL 64 a.m+ZL 64 b.m+(ZL 64 a.v+ZL 64 b.v)).getLsbD i<;>cases(ZL 64 a.v+ZL 64 b.v).getLsbD i<;>simp)
 unfold tb;rw[BitVec.ofInt_add,BitVec.ofInt_add];exact this
def T7(x y:Int):ZL 64 (x-y)=ZL 64 x-ZL 64 y:=by rw[Int.sub_eq_add_neg,BitVec.ofInt_add,BitVec.ofInt_neg,BitVec.sub_eq_add_neg]
def ahz{a b:Kn}(ha:a.wf)(hb:b.wf){p q:Int}(hp:AX a p=ZB)(hq:AX b q=ZB)(hi:i<64)(hm:tb (Gm a b).m i=ZC):
  tb a.m i=ZC/\tb b.m i=ZC/\tb (p-q) i=tb (a.v-b.v) i:=by
 have Hs:tb (bits .or .u64 (bits .or .u64 (bits .xor .u64 (ZG .u64 (ZG .u64 (a.v-b.v)+a.m)) (ZG .u64 (ZG .u64 (a.v-b.v)-b.m))) a.m) b.m) i=ZC:=hm;rw[fJ,fJ,ml]at Hs;simp only[Bool.or_eq_false_iff]at Hs;obtain⟨⟨h1,h2⟩,h3⟩:=Hs;refine⟨h2,h3,?_⟩;have:=ao1 (ng ha hp) (ng hb hq) hi h2 h3 (by
  unfold tb at h1;rw[dp,dp,BitVec.ofInt_add,T7,dp,T7]at h1;revert h1;cases(ZL 64 a.v-ZL 64 b.v+ZL 64 a.m).getLsbD i<;>cases(ZL 64 a.v-ZL 64 b.v-ZL 64 b.m).getLsbD i<;>simp)
 unfold tb;rw[T7,T7];exact this
def gr{r:Int}(hm:0<=m/\m<=18446744073709551615):AX (kj v m) r=ZB↔∀i,i<64->tb m i=ZC->tb r i=tb v i:=by
 rw[bk (eQ hm)];constructor
 .intro h i hi h0;have h1:(tb r i &&!tb m i)=tb (bits .andNot .u64 v m) i:=(h i hi).2;rw[cE _ _ hi,h0]at h1;simpa using h1
 .intro h i hi;show(tb (bits .andNot .u64 v m) i&&tb m i)=ZC/\(tb r i &&!tb m i)=tb (bits .andNot .u64 v m) i;rw[cE _ _ hi];have:=h i hi;revert this;cases tb v i<;>cases tb m i<;>cases tb r i<;>simp
def iZ(n:Nat)(hi:i<64):tb (n:Int) i=n.testBit i:=by unfold tb;rw[BitVec.ofInt_natCast,BitVec.getLsbD_ofNat];simp[hi]
def J3(op w:Int)(s i:Nat):Option Nat:=
 if op=6 then(if(i:Int)<w/\s<=i then ZA (i-s)else ZE)
 else if op=7 then(if((i+s:Nat):Int)<w then ZA (i+s)else ZE)
 else(if(i:Int)<w then ZA (if((i+s:Nat):Int)<w then i+s else(w-1).toNat)else ZE)
def src6(w:Int)(s i:Nat):J3 6 w s i=if(i:Int)<w/\s<=i then ZA (i-s)else ZE:=by unfold J3;rw[ae rfl]
def src7(w:Int)(s i:Nat):J3 7 w s i=if((i+s:Nat):Int)<w then ZA (i+s)else ZE:=by unfold J3;rw[aa ST,ae rfl]
def auO(w:Int)(s i:Nat):J3 12 w s i=if(i:Int)<w then ZA (if((i+s:Nat):Int)<w then i+s else(w-1).toNat)else ZE:=by unfold J3;rw[aa ST,aa ST]
def qV(x:Int):Option Nat->Bool
 |some j=>tb x j
 |none=>ZC
def uk(n:Nat)(hn:n<2 ^ 64)(w:Int)(hw:w=32\/w=64):∃m:Nat,Ap (n:Int) w=(m:Int)/\m<2 ^ 64/\∀i,m.testBit i=(decide ((i:Int)<w)&&n.testBit i):=by
 rcases hw with rfl|rfl
 .refine⟨n % 2 ^ 32,by rw[dR];omega,by omega,fun i=> ?_⟩;rw[Nat.testBit_mod_two_pow];congr 1;rw[decide_eq_decide];omega
 .refine⟨n,by rw[dQ],hn,fun i=> ?_⟩;by_cases hi:i<64
  .simp[show(i:Int)<64 from by omega]
  .rw[Nat.testBit_lt_two_pow (nr hn (YU Fn Fn))];simp
def apd(x:Int)(h0:0<=x)(h1:x<=18446744073709551615)(w:Int)(hw:w=32\/w=64)(s:Nat)(hs:(s:Int)<w)(hi:i<64):
  tb (Ap ((Ap x w*2 ^ s) % 18446744073709551616) w) i=qV x (J3 6 w s i):=by
 obtain⟨n,rfl⟩:=cj h0;obtain⟨m,hm,hml,hmb⟩:=uk n Fn w hw;have e:((m:Int)*2 ^ s) % 18446744073709551616=(((m*2 ^ s) % 2 ^ 64:Nat):Int):=by rw[show((2:Int) ^ s)=((2 ^ s:Nat):Int)from by simp,<-Int.natCast_mul];omega
 rw[hm,e];obtain⟨m2,Rq,_,OF⟩:=uk ((m*2 ^ s) % 2 ^ 64) (Nat.mod_lt _ ST) w hw;rw[Rq,iZ _ hi,OF,Nat.testBit_mod_two_pow,show m*2 ^ s=m <<< s from(Nat.shiftLeft_eq m s).symm,Nat.testBit_shiftLeft,hmb];rw[src6];simp only[hi,decide_true,Bool.true_and];by_cases hl:(i:Int)<w
 .by_cases P5:s<=i
  .have h2:((i-s:Nat):Int)<w:=by omega
   rw[ae ⟨hl,P5⟩];simp only[hl,P5,h2,decide_true,Bool.true_and,qV,ge_iff_le];rw[iZ _ Fn]
  .rw[aa (fun h=>P5 h.2)];simp[P5,qV]
 .rw[aa (fun h=>hl h.1)];simp[hl,qV]
def apc(x:Int)(h0:0<=x)(h1:x<=18446744073709551615)(w:Int)(hw:w=32\/w=64)(s:Nat)(hs:(s:Int)<w)(hi:i<64):
  tb (Ap (Ap x w / 2 ^ s) w) i=qV x (J3 7 w s i):=by
 obtain⟨n,rfl⟩:=cj h0;obtain⟨m,hm,hml,hmb⟩:=uk n Fn w hw;have e:(m:Int) / 2 ^ s=((m / 2 ^ s:Nat):Int):=by rw[show((2:Int) ^ s)=((2 ^ s:Nat):Int)from by simp,<-Int.natCast_ediv]
 rw[hm,e];have HP:m / 2 ^ s<=m:=Nat.div_le_self _ _;obtain⟨m2,Rq,_,OF⟩:=uk (m / 2 ^ s) Fn w hw;rw[Rq,iZ _ hi,OF,<-Nat.shiftRight_eq_div_pow,Nat.testBit_shiftRight,hmb];rw[src7];by_cases hl:((i+s:Nat):Int)<w
 .have h2:(i:Int)<w:=by omega
  have h3:((s+i:Nat):Int)<w:=Fn;rw[ae hl];simp only[h2,h3,decide_true,Bool.true_and,qV];rw[iZ _ Fn,Nat.add_comm]
 .have h3:¬((s+i:Nat):Int)<w:=by omega
  rw[aa hl];simp only[h3,decide_false,av,au,qV]
def aft(x:Int)(h0:0<=x)(h1:x<=18446744073709551615)(w:Int)(hw:w=32\/w=64):(0<=eM (Ap x w) w/\eM (Ap x w) w<=18446744073709551615)/\∀j,j<64->tb (eM (Ap x w) w) j=tb x (if(j:Int)<w then j else(w-1).toNat):=by
 rcases hw with rfl|rfl
 .obtain⟨n,rfl⟩:=cj h0;have hz:eM (Ap (n:Int) 32) 32=(((if n % 2 ^ 32<2 ^ 31 then n % 2 ^ 32 else 2 ^ 32*(2 ^ 32-1)+n % 2 ^ 32):Nat):Int):=by
   rw[dR];unfold eM J8;rw[aa ST,aa ST,ae rfl];by_cases hc:n % 2 ^ 32<2 ^ 31
   .rw[ae hc,ae Fn];omega
   .rw[aa hc,aa Fn];omega
  refine⟨by rw[hz];split<;>omega,fun j hj=> ?_⟩;rw[hz,iZ _ hj];have hb:(n % 2 ^ 32).testBit 31=decide (2 ^ 31<=n % 2 ^ 32):=by rw[Nat.testBit_eq_decide_div_mod_eq,decide_eq_decide];omega
  by_cases hc:n % 2 ^ 32<2 ^ 31
  .rw[ae hc,Nat.testBit_mod_two_pow];by_cases hl:(j:Int)<32
   .rw[ae hl,iZ _ hj];simp[show j<32 from by omega]
   .rw[aa hl,iZ _ ST];have h31:n.testBit 31=ZC:=by
     have:=Nat.testBit_mod_two_pow n 32 31;rw[hb]at this;simp at this;have h2:¬2 ^ 31<=n % 2 ^ 32:=Fn;simpa[h2]using this.symm
    simp[show¬j<32 from by omega,h31]
  .rw[aa hc,Nat.testBit_two_pow_mul_add _ (Nat.mod_lt _ ST)];by_cases hl:(j:Int)<32
   .rw[ae hl,ae Fn,Nat.testBit_mod_two_pow,iZ _ hj];simp[show j<32 from by omega]
   .rw[aa hl,aa Fn,iZ _ ST,Nat.testBit_two_pow_sub_one];have h31:n.testBit 31=ZB:=by
     have:=Nat.testBit_mod_two_pow n 32 31;rw[hb]at this;have h2:2 ^ 31<=n % 2 ^ 32:=Fn;simpa[h2]using this.symm
    rw[show(32-1:Int).toNat=31 from rfl,h31];exact dm Fn
 .rw[dQ];have hz:eM x 64=x:=by simp[eM]
  rw[hz];exact⟨⟨h0,h1⟩,fun j hj=>by rw[ae Fn]⟩
def akn(x:Int)(h0:0<=x)(h1:x<=18446744073709551615)(w:Int)(hw:w=32\/w=64)(s:Nat)(hs:(s:Int)<w)(hi:i<64):
  tb (Ap ((wrap64 (eM (Ap x w) w) / 2 ^ s) % 18446744073709551616) w) i=qV x (J3 12 w s i):=by
 obtain⟨⟨z0,z1⟩,hb⟩:=aft x h0 h1 w hw;have hwl:w<=64:=Fn;rw[TE Fn Fn hw hi];have e1:wrap64 (eM (Ap x w) w)=(ZL 64 (eM (Ap x w) w)).toInt:=by rw[BitVec.toInt_ofInt,Pk,Int.bmod_def];simp only[Nat.reducePow];split<;>omega
 have e2:tb ((wrap64 (eM (Ap x w) w) / 2 ^ s) % 18446744073709551616) i=((ZL 64 (eM (Ap x w) w)).sshiftRight s).getLsbD i:=by
  unfold tb;have:ZL 64 ((wrap64 (eM (Ap x w) w) / 2 ^ s) % 18446744073709551616)=(ZL 64 (eM (Ap x w) w)).sshiftRight s:=by rw[show∀z:Int,ZL 64 (z % 18446744073709551616)=ZL 64 z from fun z=>by rw[<-aW,dp],e1];rw[BitVec.sshiftRight,Int.shiftRight_eq_div_pow];simp
  rw[this]
 rw[e2,BitVec.getLsbD_sshiftRight];rw[auO];have hn:¬64<=i:=Fn;by_cases hl:(i:Int)<w
 .rw[ae hl];simp only[hl,hn,decide_true,decide_false,Bool.not_false,Bool.true_and,qV];by_cases h2:((i+s:Nat):Int)<w
  .rw[ae h2,ae Fn];have:=hb (s+i) Fn;rw[ae Fn]at this;rw[Nat.add_comm i s];exact this
  .rw[aa h2];by_cases h3:s+i<64
   .rw[ae h3];have:=hb (s+i) h3;rwa [aa Fn]at this
   .rw[aa h3,BitVec.msb_eq_getLsbD_last];have:=hb 63 ST;rw[show 64-1=63 from rfl];rw[show(ZL 64 (eM (Ap x w) w)).getLsbD 63=tb (eM (Ap x w) w) 63 from rfl,this];rcases hw with rfl|rfl
    .rfl
    .rfl
 .rw[aa hl];simp[hl,qV]
def W1(Ad:op=6\/op=7\/op=12)(hw:w=32\/w=64){q:Int}(h0:0<=x)(h1:x<=18446744073709551615){s:Nat}(hs:(s:Int)<w)(hq:Ap q w % w=s)(hi:i<64):
  tb (BE op w x q) i=qV x (J3 op w s i):=by
 unfold BE;rw[hq];rcases Ad with rfl|rfl|rfl
 .have e:BT 6 w (Ap x w) (Ap q w) s=(Ap x w*2 ^ s) % 18446744073709551616:=by simp[BT]
  rw[e];exact apd x h0 h1 w hw s hs hi
 .have e:BT 7 w (Ap x w) (Ap q w) s=Ap x w / 2 ^ s:=by simp[BT]
  rw[e];exact apc x h0 h1 w hw s hs hi
 .have e:BT 12 w (Ap x w) (Ap q w) s=(wrap64 (eM (Ap x w) w) / 2 ^ s) % 18446744073709551616:=by simp[BT]
  rw[e];exact akn x h0 h1 w hw s hs hi
def arY(hw:w=32\/w=64){s j:Nat}(h:J3 op w s i=ZA j):j<64:=by
 unfold J3 at h
 repeat' split at h
 all_goals (simp at h;try omega)
def sR(a b:Int)(hw:w=32\/w=64):Ap (BE op w a b) w=BE op w a b:=ajt op w a b
def akO(hw:w=32\/w=64)(h0:0<=x)(h1:x<=18446744073709551615):bits .and .u64 x (w-1)=x % w:=by
 rcases hw with rfl|rfl
 .exact arq x h0 h1
 .exact arp x h0 h1
def aiI(hw:w=32\/w=64)(x:Int):Ap x w % w=x % w:=by
 rcases hw with rfl|rfl
 .rw[dR];omega
 .rw[dQ]
def ahu{b:Kn}(hb:b.wf){q:Int}(hq:AX b q=ZB)(q0:0<=q)(q1:q<=18446744073709551615)(hw:w=32\/w=64)(hk:(bits .and .u64 b.m (w-1)==0)=ZB):
  bits .and .u64 b.v (w-1)=q % w:=by
 rw[<-akO hw q0 q1];apply TD (iK _ _) (iK _ _);intro i hi;have h1:=(bk hb q).1 hq i hi;have h2:=(yh (iK _ _) nh).1 hk i hi;rw[jK,ij]at h2;rw[jK,jK];revert h1 h2;cases tb b.v i<;>cases tb b.m i<;>cases tb q i<;>cases tb (w-1) i<;>simp
def apL(hw:w=32\/w=64)(q:Int):∃s:Nat,q % w=s/\(s:Int)<w:=by
 have h:0<=q % w/\q % w<w:=by rcases hw with rfl|rfl<;>omega
 exact⟨(q % w).toNat,by omega,by omega⟩
def pG(hw:w=32\/w=64){a b:Kn}(ha:a.wf)(hb:b.wf){p q:Int}(p0:0<=p/\p<=18446744073709551615)(q0:0<=q/\q<=18446744073709551615)(Ad:op=6\/op=7\/op=12)
  (key:∀r:Int,(0<=r/\r<=18446744073709551615)->AX (Dm op w a b) r=ZB->Ap r w=BE op w p q->AX (B5 (Dm op w a b) w) (BE op w p q)=ZB) (hp:AX a p=ZB) (hq:AX b q=ZB):
  AX (B5 (Dm op w a b) w) (BE op w p q)=ZB:=by
 refine key (BE op w p q) (eG _ _ _ _ p0.1 p0.2 q0.1 q0.2) ?_ (sR _ _ hw);by_cases hk:(bits .and .u64 b.m (w-1)==0)=ZB
 .have e:Dm op w a b=TO op w a b:=by
   unfold Dm;rcases Ad with rfl|rfl|rfl<;>simp only[show¬(6:Int)=0 from by decide,show¬(6:Int)=1 from by decide,show¬(6:Int)=4 from by decide,show¬(6:Int)=5 from by decide,show¬(7:Int)=0 from by decide,show¬(7:Int)=1 from by decide,show¬(7:Int)=4 from by decide,show¬(7:Int)=5 from by decide,show¬(12:Int)=0 from by decide,show¬(12:Int)=1 from by decide,show¬(12:Int)=4 from by decide,show¬(12:Int)=5 from by decide,eA,ae hk,true_or,or_true,bm]
  rw[e];unfold TO;have hs:=iK b.v (w-1);rw[gr (eG _ _ _ _ ha.2.1 ha.2.2 hs.1 hs.2)];obtain⟨s,hsq,P7⟩:=apL hw q;have hl:=ahu hb hq q0.1 q0.2 hw hk;have Rt:Ap (bits .and .u64 b.v (w-1)) w % w=s:=by rw[aiI hw,hl,hsq];exact Int.emod_eq_of_lt Fn P7
  have hmq:Ap q w % w=s:=by rw[aiI hw,hsq]
  intro i hi hm;rw[W1 Ad hw ha.2.1 ha.2.2 P7 Rt hi]at hm;rw[W1 Ad hw p0.1 p0.2 P7 hmq hi,W1 Ad hw ha.1.1 ha.1.2 P7 Rt hi];cases hsrc:J3 op w s i with
  |none=>rfl
  |some j=>rw[hsrc]at hm;have hj:=arY hw hsrc;have h1:=((bk ha p).1 hp j hj).2;have h2:tb a.m j=ZC:=hm;rw[h2]at h1;have h3:tb p j=tb a.v j:=XC;exact h3
 .have e:Dm op w a b=kall:=by
   unfold Dm;rcases Ad with rfl|rfl|rfl<;>simp only[show¬(6:Int)=0 from by decide,show¬(6:Int)=1 from by decide,show¬(6:Int)=4 from by decide,show¬(6:Int)=5 from by decide,show¬(7:Int)=0 from by decide,show¬(7:Int)=1 from by decide,show¬(7:Int)=4 from by decide,show¬(7:Int)=5 from by decide,show¬(12:Int)=0 from by decide,show¬(12:Int)=1 from by decide,show¬(12:Int)=4 from by decide,show¬(12:Int)=5 from by decide,eA,aa hk,true_or,or_true,bm]
  rw[e];exact mO _
def aqi(h0:0<=op)(Jb:op<=12)(hw:w=32\/w=64){a b:Kn}(ha:a.wf)(hb:b.wf){p q:Int}(hp:AX a p=ZB)(hq:AX b q=ZB)
  (p0:0<=p/\p<=18446744073709551615) (q0:0<=q/\q<=18446744073709551615) (pc:Ap p w=p) (qc:Ap q w=q):
  AX (B5 (Dm op w a b) w) (BE op w p q)=ZB:=by
 have hwf:=al3 ha hb op w;have key:∀r:Int,(0<=r/\r<=18446744073709551615)->AX (Dm op w a b) r=ZB->Ap r w=BE op w p q->AX (B5 (Dm op w a b) w) (BE op w p q)=ZB:=fun r hr h e=>by rw[<-e];exact oU hwf hr h hw
 have hz:BE op w p q=Ap (BT op w p q (q % w)) w:=by unfold BE;rw[pc,qc]
 rcases ug h0 Jb with rfl|rfl|rfl|rfl|rfl|rfl|rfl|rfl|rfl|rfl|rfl|rfl|rfl
 ·
  refine key ((p+q) % 18446744073709551616) Fn ?_ (by rw[hz];simp[BT]);have e:Dm 0 w a b=JU a b:=by simp[Dm]
  rw[e];unfold JU;rw[gr (iT _ _)];intro i hi hm;obtain⟨_,_,h⟩:=aqk ha hb hp hq hi hm;have e1:tb ((p+q) % 18446744073709551616) i=tb (p+q) i:=by unfold tb;rw[<-aW,dp]
  have e2:tb (ZG .u64 (a.v+b.v)) i=tb (a.v+b.v) i:=by unfold tb;rw[dp]
  rw[e1,e2,h]
 ·
  refine key ((p-q) % 18446744073709551616) Fn ?_ (by rw[hz];simp[BT]);have e:Dm 1 w a b=Gm a b:=by simp[Dm]
  rw[e];unfold Gm;rw[gr (iT _ _)];intro i hi hm;obtain⟨_,_,h⟩:=ahz ha hb hp hq hi hm;have e1:tb ((p-q) % 18446744073709551616) i=tb (p-q) i:=by unfold tb;rw[<-aW,dp]
  have e2:tb (ZG .u64 (a.v-b.v)) i=tb (a.v-b.v) i:=by unfold tb;rw[dp]
  rw[e1,e2,h]
 .have e:Dm 2 w a b=kall:=by simp[Dm]
  refine key (BE 2 w p q) (eG _ _ _ _ p0.1 p0.2 q0.1 q0.2) (by rw[e];exact mO _) (sR _ _ hw)
 .have e:Dm 3 w a b=kall:=by simp[Dm]
  refine key (BE 3 w p q) (eG _ _ _ _ p0.1 p0.2 q0.1 q0.2) (by rw[e];exact mO _) (sR _ _ hw)
 ·
  have e:Dm 4 w a b=kor a b:=by simp[Dm]
  refine key (bits .or .u64 p q) (iT _ _) ?_ (by rw[hz,u64_or _ _ p0.1 Fn q0.1 Fn];simp[BT]);rw[e,bk ⟨iT _ _,ez _ _⟩];intro i hi;have h1:=(bk ha p).1 hp i hi;have h2:=(bk hb q).1 hq i hi;show(tb (bits .or .u64 a.v b.v) i&&tb (bits .andNot .u64 (bits .or .u64 a.m b.m) (bits .or .u64 a.v b.v)) i)=ZC/\(tb (bits .or .u64 p q) i &&!tb (bits .andNot .u64 (bits .or .u64 a.m b.m) (bits .or .u64 a.v b.v)) i)=tb (bits .or .u64 a.v b.v) i;rw[cE _ _ hi,fJ,fJ,fJ];revert h1 h2;cases tb a.v i<;>cases tb a.m i<;>cases tb b.v i<;>cases tb b.m i<;>cases tb p i<;>cases tb q i<;>simp
 ·
  have e:Dm 5 w a b=O1 a b:=by simp[Dm]
  refine key (bits .and .u64 p q) (iK _ _) ?_ (by rw[hz,u64_and _ _ p0.1 Fn q0.1 Fn];simp[BT]);rw[e,bk ⟨iK _ _,ez _ _⟩];intro i hi;have h1:=(bk ha p).1 hp i hi;have h2:=(bk hb q).1 hq i hi;show(tb (bits .and .u64 a.v b.v) i&&tb (bits .andNot .u64 (bits .and .u64 (bits .or .u64 a.v a.m) (bits .or .u64 b.v b.m)) (bits .and .u64 a.v b.v)) i)=ZC/\(tb (bits .and .u64 p q) i &&!tb (bits .andNot .u64 (bits .and .u64 (bits .or .u64 a.v a.m) (bits .or .u64 b.v b.m)) (bits .and .u64 a.v b.v)) i)=tb (bits .and .u64 a.v b.v) i;rw[cE _ _ hi,jK,jK,jK,fJ,fJ];revert h1 h2;cases tb a.v i<;>cases tb a.m i<;>cases tb b.v i<;>cases tb b.m i<;>cases tb p i<;>cases tb q i<;>simp
 .exact pG hw ha hb p0 q0 (.inl rfl) key hp hq
 .exact pG hw ha hb p0 q0 (.inr (.inl rfl)) key hp hq
 ·
  have e:Dm 8 w a b=Gm (Ep 0) a:=by simp[Dm]
  refine key ((0-p) % 18446744073709551616) Fn ?_ (by rw[hz];simp[BT]);rw[e];unfold Gm;rw[gr (iT _ _)];intro i hi hm;obtain⟨_,_,h⟩:=ahz (sZ nh) ha (uA nh) hp hi hm;have e1:tb ((0-p) % 18446744073709551616) i=tb (0-p) i:=by unfold tb;rw[<-aW,dp]
  have e2:tb (ZG .u64 ((Ep 0).v-a.v)) i=tb ((Ep 0).v-a.v) i:=by unfold tb;rw[dp]
  rw[e1,e2,h]
 .have e:Dm 9 w a b=kall:=by simp[Dm]
  refine key (BE 9 w p q) (eG _ _ _ _ p0.1 p0.2 q0.1 q0.2) (by rw[e];exact mO _) (sR _ _ hw)
 ·
  have e:Dm 10 w a b=Mn a b:=by simp[Dm]
  refine key (bits .xor .u64 p q) (rz _ _) ?_ (by rw[hz,u64_xor _ _ p0.1 Fn q0.1 Fn];simp[BT]);rw[e];unfold Mn;rw[gr (iT _ _)];intro i hi hm;have h1:=(bk ha p).1 hp i hi;have h2:=(bk hb q).1 hq i hi;rw[fJ]at hm;rw[ml,ml];revert h1 h2 hm;cases tb a.v i<;>cases tb a.m i<;>cases tb b.v i<;>cases tb b.m i<;>cases tb p i<;>cases tb q i<;>simp
 .have e:Dm 11 w a b=b:=by simp[Dm]
  refine key q q0 (by rw[e];exact hq) (by rw[hz];simp[BT])
 .exact pG hw ha hb p0 q0 (.inr (.inr rfl)) key hp hq
def vO{a:Kn}(ha:a.wf){p:Int}(hp:AX a p=ZB)(p0:0<=p/\p<=18446744073709551615)(hm:a.m=0):a.v=p:=by apply TD ha.1 p0;intro i hi;have h:=((bk ha p).1 hp i hi).2;rw[hm,ij]at h;simpa using h.symm
def akS{a b:Kn}(h1:Bz a=ZB)(h2:Bz b=ZB)(h3:0<=op)(h4:op<=12)(h5:w=32\/w=64):ed op w a b=ZB:=by
 have:fG w=ZB:=by rcases h5 with rfl|rfl<;>rfl
 simp[ed,h1,h2,h3,h4,this]
def ahL(h0:0<=op)(Jb:op<=12)(hw:w=32\/w=64){a b:Kn}(ha:a.wf)(hb:b.wf){p q:Int}(hp:AX a p=ZB)(hq:AX b q=ZB)(p0:0<=p/\p<=18446744073709551615)(q0:0<=q/\q<=18446744073709551615):AX (Jo op w a b) (BE op w p q)=ZB:=by
 have hA:=oU ha p0 hp hw;have hB:=oU hb q0 hq hw;have hP:=dk p w p0.1 p0.2;have hQ:=dk q w q0.1 q0.2;have wA:=jB ha w;have wB:=jB hb w;rw[<-zO,Jo,ae (akS (kR hp) (kR hq) h0 Jb hw)];split
 next hm=>rw[or_zero wA.2.1 wA.2.2 wB.2.1 wB.2.2,ne,cQ,cQ]at hm;rw[vO wA hA hP hm.1,vO wB hB hQ hm.2];exact uA (eG _ _ _ _ hP.1 hP.2 hQ.1 hQ.2)
 .exact aqi h0 Jb hw wA wB hA hB hP hQ (jz _ _) (jz _ _)
def abQ{a b:Kn}(hb:b.wf):Lc a b=ZB↔Bz a=ZB/\Bz b=ZB/\∀i,i<64->tb b.m i=ZC->tb a.m i=ZC/\tb a.v i=tb b.v i:=by
 rw[ahH hb,eV,eV];constructor
 .intro h;refine⟨fun i hi=>(h i hi).1,fun i hi=>(h i hi).2.1,fun i hi hm=> ?_⟩;have:=h i hi;revert this hm;cases tb a.v i<;>cases tb a.m i<;>cases tb b.v i<;>cases tb b.m i<;>simp
 .rintro ⟨h1,h2,h3⟩ i hi;have a1:=h1 i hi;have a2:=h2 i hi;have a3:=h3 i hi;revert a1 a2 a3;cases tb a.v i<;>cases tb a.m i<;>cases tb b.v i<;>cases tb b.m i<;>simp
def xg{a:Kn}(ha:a.wf)(x:Int):AX a x=ZB↔Bz a=ZB/\∀i,i<64->tb a.m i=ZC->tb x i=tb a.v i:=by
 rw[bk ha,eV];constructor
 .intro h;refine⟨fun i hi=>(h i hi).1,fun i hi hm=> ?_⟩;have:=h i hi;revert this hm;cases tb a.v i<;>cases tb a.m i<;>cases tb x i<;>simp
 .rintro ⟨h1,h2⟩ i hi;have a1:=h1 i hi;have a2:=h2 i hi;revert a1 a2;cases tb a.v i<;>cases tb a.m i<;>cases tb x i<;>simp
def ahI{a b:Kn}(ha:a.wf)(hb:b.wf)(h:Lc a b=ZB)(hz:AX a z=ZB):AX b z=ZB:=by obtain⟨h1,h2,h3⟩:=(abQ hb).1 h;obtain⟨_,h4⟩:=(xg ha z).1 hz;rw[xg hb];exact⟨h2,fun i hi hm=>(h4 i hi (h3 i hi hm).1).trans (h3 i hi hm).2⟩
def abO{a b:Kn}(h1:Bz a=ZB)(h2:Bz b=ZB):jv a b=kj a.v (bits .or .u64 (bits .or .u64 a.m b.m) (bits .xor .u64 a.v b.v)):=by simp[jv,h1,h2]
def abP{a:Kn}(hm:0<=m/\m<=18446744073709551615)(h1:Bz a=ZB)(h:∀i,i<64->tb m i=ZC->tb a.m i=ZC/\tb a.v i=tb v i):Lc a (kj v m)=ZB:=by rw[abQ (eQ hm)];refine⟨h1,xe _ _,fun i hi h0=> ?_⟩;have h0':tb m i=ZC:=h0;obtain⟨g1,g2⟩:=h i hi h0';refine⟨g1,?_⟩;show _=tb (bits .andNot .u64 v m) i;rw[cE _ _ hi,h0',g2];simp
def ahG{a b:Kn}(h1:Bz a=ZB)(h2:Bz b=ZB):Lc a (jv a b)=ZB:=by rw[abO h1 h2];refine abP (iT _ _) h1 (fun i hi h=> ?_);rw[fJ,fJ,ml]at h;revert h;cases tb a.v i<;>cases tb a.m i<;>cases tb b.v i<;>cases tb b.m i<;>simp
def ahF{a b:Kn}(h1:Bz a=ZB)(h2:Bz b=ZB):Lc b (jv a b)=ZB:=by rw[abO h1 h2];refine abP (iT _ _) h2 (fun i hi h=> ?_);rw[fJ,fJ,ml]at h;revert h;cases tb a.v i<;>cases tb a.m i<;>cases tb b.v i<;>cases tb b.m i<;>simp
def ahC{a b:Kn}(ha:a.wf)(hb:b.wf)(h:eJ a b=ZB)(z:Int):AX (ju a b) z=(AX a z&&AX b z):=by
 have hm:=(rW a b).1 h;rw[ao,ne,bk ha,bk hb];have e:ju a b=kj (bits .or .u64 a.v b.v) (bits .and .u64 a.m b.m):=by simp[ju,h]
 rw[e,gr (iK _ _)];constructor
 .intro g;constructor
  .intro i hi;have g1:=g i hi;have g2:=hm i hi;rw[jK,fJ]at g1;revert g1 g2;cases tb a.v i<;>cases tb a.m i<;>cases tb b.v i<;>cases tb b.m i<;>cases tb z i<;>simp
  .intro i hi;have g1:=g i hi;have g2:=hm i hi;rw[jK,fJ]at g1;revert g1 g2;cases tb a.v i<;>cases tb a.m i<;>cases tb b.v i<;>cases tb b.m i<;>cases tb z i<;>simp
 .rintro ⟨g1,g2⟩ i hi h0;have a1:=g1 i hi;have a2:=g2 i hi;rw[jK]at h0;rw[fJ];revert a1 a2 h0;cases tb a.v i<;>cases tb a.m i<;>cases tb b.v i<;>cases tb b.m i<;>cases tb z i<;>simp
def adc{a b:Kn}(ha:a.wf)(hb:b.wf)(h:eJ a b=ZC)(z:Int):(AX a z&&AX b z)=ZC:=by
 cases hz:(AX a z&&AX b z)
 .rfl
 .exfalso;rw[ne]at hz;have g1:=(bk ha z).1 hz.1;have g2:=(bk hb z).1 hz.2;have:eJ a b=ZB:=by
   rw[rW];intro i hi;have a1:=g1 i hi;have a2:=g2 i hi;revert a1 a2;cases tb a.v i<;>cases tb a.m i<;>cases tb b.v i<;>cases tb b.m i<;>cases tb z i<;>simp
  rw[h]at this;cases this
def akT{r:Rg}(hr:r.wf)(z0:r.ul<=z)(z1:z<=r.uh):AX (Gl r) z=ZB:=by
 obtain⟨⟨l0,l1⟩,⟨u0,u1⟩,_⟩:=hr;have hx:=rz r.ul r.uh;obtain⟨n,hn⟩:∃n,aB (bits .xor .u64 r.ul r.uh).toNat=n:=⟨_,rfl⟩
 have HP:n<=64:=by rw[<-hn];exact gE Fn
 have Jf:r.ul / 2 ^ n=r.uh / 2 ^ n:=by
  refine(acj r.ul r.uh n HP l0 l1 u0 u1).1 ?_;have As:=qR (bits .xor .u64 r.ul r.uh).toNat;rw[hn]at As;obtain⟨x,F9⟩:=cj hx.1;rw[F9]at As hx ⊢;have hq:1<=(2:Nat) ^ n:=Nat.one_le_two_pow;have hp:(2:Nat) ^ n<=2 ^ 64:=YU Fn HP;rw[show((2:Int) ^ n-1)=((2 ^ n-1:Nat):Int)from by rw[Int.ofNat_sub hq];simp,u64_andNot_nat x (2 ^ n-1) Fn Fn];have h6:=(uR x n HP Fn).2 (Nat.div_eq_of_lt (by simpa using As))
  exact_mod_cast h6
 have hz:z / 2 ^ n=r.ul / 2 ^ n:=by have hp:(0:Int)<2 ^ n:=Int.pow_pos Fn;have g1:=Int.ediv_le_ediv hp z0;have g2:=Int.ediv_le_ediv hp z1;omega
 have hd:=(acj z r.ul _ HP Fn Fn l0 l1).2 hz;have Rz:=apK HP;have hcv:Gl r=kj r.ul (2 ^ n-1):=by unfold Gl lg;rw[hn]
 rw[hcv,gr (by generalize (2:Int) ^ n=x at *;omega)];intro i Bg hm;have h5:=(yh (ez _ _) nh).1 (cQ.2 hd) i Bg;rw[cE _ _ Bg,ml,ij,hm]at h5;revert h5;cases tb z i<;>cases tb r.ul i<;>simp
def WK{k:Kn}(hk:k.wf):(Na k).wf:=⟨hk.1,iT _ _,by simp[Na,ball],by simp[Na,ball]⟩
def asI{k:Kn}(hk:k.wf)(hx:0<=x/\x<=18446744073709551615)(h:AX k x=ZB):AF (Na k) x=ZB:=by have A:=ng hk h;have h1:=A.low.mod 64;have h2:=A.high.mod 64;rw[<-aud]at h2;have e1:=mX hk.1.1 hk.1.2;have e2:=mX hx.1 hx.2;have e3:=mX (iT k.v k.m).1 (iT k.v k.m).2;rw[Nat.mod_eq_of_lt (BitVec.isLt _),Nat.mod_eq_of_lt (BitVec.isLt _)]at h1 h2;rw[aQ];have:=ge x;show k.v<=x/\x<=bits .or .u64 k.v k.m /\ -9223372036854775808<=B0 x/\B0 x<=9223372036854775807;omega
def tf{a b:Rg}(ha:a.wf)(hb:b.wf):(jw a b).wf:=by
 unfold jw;split
 .exact te (sY ha hb)
 .exact fw
def td(a b:Kn):(ju a b).wf:=by
 unfold ju;split
 .exact eQ (iK _ _)
 .exact jC
def aoB{r:Rg}(hr:r.wf):(Gl r).wf:=eQ (uP (rz _ _).2)
def jo{r:Rg}{k:Kn}(hr:r.wf)(hk:k.wf):(sc r k).wf:=⟨hr,hk⟩
def WJ{a:Sc}(ha:a.wf):(Jv a).wf:=jo (tf ha.r (WK ha.k)) (td _ _)
def sX:vall.wf:=jo fw jC
def pu{a:Sc}(ha:a.wf):(Cj a).wf:=by
 unfold Cj;split
 .exact WJ (WJ ha)
 .exact sX
def fx{a:Sc}(h1:AF a.r x=ZB)(h2:AX a.k x=ZB):A3 a x=ZB:=by unfold A3 Bf;rw[dc h1,kR h2,h1,h2];rfl
def fB{a:Sc}(h:A3 a x=ZB):AF a.r x=ZB:=by unfold A3 at h;simp only[ne]at h;exact h.2.1
def fT{a:Sc}(h:A3 a x=ZB):AX a.k x=ZB:=by unfold A3 at h;simp only[ne]at h;exact h.2.2
def eR{a:Sc}(h:A3 a x=ZB):Bf a=ZB:=by unfold A3 at h;rw[ne]at h;exact h.1
def xd{a b:Kn}(ha:a.wf)(hb:b.wf)(h1:AX a z=ZB)(h2:AX b z=ZB):eJ a b=ZB/\AX (ju a b) z=ZB:=by
 cases h:eJ a b
 .have:=adc ha hb h z;rw[h1,h2]at this;cases this
 .exact⟨rfl,by rw[ahC ha hb h z,h1,h2];rfl⟩
def aiZ{a b:Rg}(ha:a.wf)(hb:b.wf)(hz:0<=z/\z<=18446744073709551615)(h1:AF a z=ZB)(h2:AF b z=ZB):fv a b=ZB/\AF (jw a b) z=ZB:=by have h:=abY ha hb hz.1 hz.2 h2;rw[h1]at h;have h:=h.symm;rw[ne]at h;exact h
def ad7{a:Sc}(ha:a.wf)(hx:0<=x/\x<=18446744073709551615)(h:A3 a x=ZB):MA a=ZB/\MB a=ZB/\A3 (Jv a) x=ZB:=by have h1:=aiZ ha.r (WK ha.k) hx (fB h) (asI ha.k hx (fT h));have hw:=tf ha.r (WK ha.k);have hb:=(aQ _ _).1 h1.2;have h2:=xd ha.k (aoB hw) (fT h) (akT hw hb.1 hb.2.1);exact⟨h1.1,h2.1,fx (a:=Jv a) h1.2 h2.2⟩
def gL{a:Sc}(ha:a.wf)(hx:0<=x/\x<=18446744073709551615)(h:A3 a x=ZB):Dc a=ZB/\A3 (Cj a) x=ZB:=by obtain⟨h1,h2,h3⟩:=ad7 ha hx h;obtain⟨g1,g2,g3⟩:=ad7 (WJ ha) hx h3;have e:=Sy (eR h) h1 h2 g1 g2;exact⟨e.2,by rw[e.1];exact g3⟩
def xT{a b:Rg}(ha:a.wf)(hb:b.wf):(C4 cc a b).wf:=by
 unfold C4;split
 .rename_i hk;have hg:=alR hk;unfold CI at hk;rw[hg,Bool.true_and]at hk;unfold jy at hg;simp only[ne]at hg;by_cases c:cc=0
  .rw[ae c];exact tf ha hb
  .rw[aa c]at hk ⊢;rw[ne]at hk;exact te (adZ ha hb hg.1 hg.2.1 hk.1)
 .exact fw
def ajF{a b:Sc}(ha:a.wf)(hb:b.wf)(hv:0<=v/\v<=18446744073709551615)(hx:0<=x/\x<=18446744073709551615)(h1:A3 a v=ZB)(h2:A3 b x=ZB)(hc:DW cc 64=ZB)(hy:lW cc 64 v x=ZB):DI cc a b=ZB/\A3 (Eu cc a b) v=ZB:=by
 unfold DW at hc;simp only[ne,aE]at hc;have hy:=xN hy;have hg:=aqY ha.r hb.r hv.1 hv.2 hx.1 hx.2 (fB h1) (fB h2) hc.1.1 hc.1.2 hy;by_cases c:cc=0
 .have e:v=x:=by
   unfold zK at hy;rw[ae c]at hy;exact Ah hy
  subst e;have hk:=xd ha.k hb.k (fT h1) (fT h2);have q:=Sv (eR h1) (eR h2) hg.1 (cQ.2 c) hk.1;rw[q.1,q.2];exact gL (jo (xT ha.r hb.r) (td _ _)) hv (fx (a:=sc _ _) hg.2 hk.2)
 .have q:=Sw (eR h1) (eR h2) hg.1 (jJ.2 c);rw[q.1,q.2];exact gL (jo (xT ha.r hb.r) ha.k) hv (fx (a:=sc (C4 cc a.r b.r) a.k) hg.2 (fT (a:=a) h1))
def zT{a b:Rg}(ha:a.wf)(hb:b.wf):(jx a b).wf:=by
 obtain⟨a1,a2,a3,a4⟩:=ha;obtain⟨b1,b2,b3,b4⟩:=hb;unfold jx;split
 .unfold na;refine⟨?_,?_,?_,?_⟩<;>simp only<;>omega
 .exact fw
def rY{a b:Kn}(ha:a.wf)(h1:AX a x=ZB)(h2:Bz b=ZB):AX (jv a b) x=ZB:=ahI ha (kF a b) (ahG (kR h1) h2) h1
def rX{a b:Kn}(hb:b.wf)(h1:Bz a=ZB)(h2:AX b x=ZB):AX (jv a b) x=ZB:=ahI hb (kF a b) (ahF h1 (kR h2)) h2
def zZ{a:Sc}(h:Bf a=ZB):AT a.r=ZB:=by unfold Bf at h;rw[ne]at h;exact h.1
def TA{a:Sc}(h:Bf a=ZB):Bz a.k=ZB:=by unfold Bf at h;rw[ne]at h;exact h.2
def adY{a b:Rg}(ha:a.wf):(Gc a b).wf:=by obtain⟨a1,a2,a3,a4⟩:=ha;unfold Gc;refine⟨?_,?_,?_,?_⟩<;>simp only<;>split<;>omega
def aoA{a b:Rg}(ha:a.wf)(hb:b.wf)(hz:0<=z/\z<=18446744073709551615)(h:AF a z=ZB\/AF b z=ZB):AF (Gc a b) z=ZB:=by have hs:=ge z;obtain⟨a1,a2,a3,a4⟩:=ha;obtain⟨b1,b2,b3,b4⟩:=hb;rw[aQ,aQ]at h;rw[aQ];unfold Gc;simp only[jJ,aE,ne_eq];refine⟨?_,?_,?_,?_⟩<;>split<;>omega
def uY{a b:Sc}(ha:a.wf)(hb:b.wf)(hz:0<=z/\z<=18446744073709551615)(ma:Bf a=ZB)(mb:Bf b=ZB)(h:A3 a z=ZB\/A3 b z=ZB):A3 (jF a b) z=ZB:=by
 unfold jF;rw[ae ⟨ma,mb⟩];refine(gL (jo (zT ha.r hb.r) (kF _ _)) hz ?_).2;rcases h with h|h
 .exact fx (a:=sc _ _) (aid (fB h) (zZ mb)) (rY ha.k (fT h) (TA mb))
 .exact fx (a:=sc _ _) (aic (zZ ma) (fB h)) (rX hb.k (TA ma) (fT h))
def zW{a b:Sc}(ha:a.wf)(hb:b.wf)(hz:0<=z/\z<=18446744073709551615)(ma:Bf a=ZB)(mb:Bf b=ZB)(h:A3 a z=ZB\/A3 b z=ZB):A3 (DJ a b) z=ZB:=by
 unfold DJ;rw[ae ⟨ma,mb⟩];refine(gL (jo (adY ha.r) (kF _ _)) hz ?_).2;refine fx (a:=sc _ _) (aoA ha.r hb.r hz ?_) ?_
 .rcases h with h|h
  .exact .inl (fB h)
  .exact .inr (fB h)
 .rcases h with h|h
  .exact rY ha.k (fT h) (TA mb)
  .exact rX hb.k (TA ma) (fT h)
def xS{a:Rg}(ha:a.wf):(C5 a).wf:=by
 unfold C5;split
 .exact ha
 .exact te (pw Fn Fn Fn Fn)
def aab{a:Sc}(ha:a.wf)(hz:0<=z/\z<=18446744073709551615)(h:A3 a z=ZB):A3 (I7 a) (Ap z 32)=ZB:=by refine(gL (jo (xS ha.r) (jB ha.k 32)) (dk z 32 hz.1 hz.2) ?_).2;refine fx (a:=sc _ _) ?_ (oU ha.k hz (fT h) (.inl rfl));rw[dR];exact aib hz.1 (fB h)
def nm{a:Sc}(ha:a.wf):(I7 a).wf:=pu (jo (xS ha.r) (jB ha.k 32))
def yZ(z0:0<=z)(z1:z<=4294967295):AF (C5 ball) z=ZB:=by have h:=aib z0 (kU z z0 Fn);rw[Int.emod_eq_of_lt z0 Fn]at h;exact h
def aiS{r:Rg}(h:AF r y=ZB)(e:y<=4294967295->y=z)(z0:0<=z)(z1:z<=4294967295):AF (Ll r) z=ZB:=by
 unfold Ll;split
 .have:=(aQ r y).1 h;rw[<-e Fn];exact h
 .exact yZ z0 z1
def acr:AF (Hz v) v=ZB:=by rw[aQ];exact⟨Int.le_refl _,Int.le_refl _,Int.le_refl _,Int.le_refl _⟩
def al7(v:Int):(Cb v).r=Hz v:=rfl
def acE{a:Sc}(ha:a.wf)(hy:0<=y/\y<=18446744073709551615)(h:A3 a y=ZB)(ho:xW a=ZB):jD a=y:=by unfold xW at ho;rw[ne]at ho;have e:=qQ ho.2 hy.1 hy.2;rw[fB h]at e;have e:=Ah e.symm;unfold jD aF;rw[ae ho.1,ae ho.2,e]
def av7(h0:0<=op)(Jb:op<=12)(n8:op≠8)(n12:op≠12)(n6:op≠6)(n7:op≠7)(x0:0<=x)(x1:x<=4294967295)(y0:0<=y)(y1:y<=4294967295)(hs:BE op 64 x y<=4294967295):BE op 64 x y=BE op 32 x y:=by
 have hb:=(eG op 64 x y x0 Fn y0 Fn).1;unfold BE at hs hb ⊢;rw[dQ,dQ,dQ]at hs hb ⊢;rw[dR,dR,dR,Int.emod_eq_of_lt (b:=4294967296) x0 Fn,Int.emod_eq_of_lt (b:=4294967296) y0 Fn];have e:BT op 32 x y (y % 32)=BT op 64 x y (y % 64):=by
  unfold BT;by_cases c0:op=0
  .simp[c0]
  by_cases c1:op=1
  .simp[c1]
  by_cases c2:op=2
  .simp[c2]
  by_cases c3:op=3
  .simp[c3]
  by_cases c4:op=4
  .simp[c4]
  by_cases c5:op=5
  .simp[c5]
  by_cases c9:op=9
  .simp[c9]
  by_cases BF:op=10
  .simp[BF]
  obtain rfl:op=11:=Fn;simp
 rw[e,Int.emod_eq_of_lt hb Fn]
def av6(ho:op=6\/op=7)(x0:0<=x)(x1:x<=4294967295)(y0:0<=y)(y1:y<=4294967295)(hs:BE op 64 x (y % 32)<=4294967295):BE op 64 x (y % 32)=BE op 32 x y:=by
 have hb:=(eG op 64 x (y % 32) x0 Fn Fn Fn).1;unfold BE at hs hb ⊢;rw[dQ,dQ,dQ]at hs hb ⊢;rw[dR,dR,dR,Int.emod_eq_of_lt (b:=4294967296) x0 Fn,Int.emod_eq_of_lt (b:=4294967296) y0 Fn];have e:BT op 32 x y (y % 32)=BT op 64 x (y % 32) (y % 32 % 64):=by rw[Int.emod_eq_of_lt (a:=y % 32) (b:=64) Fn Fn];rcases ho with rfl|rfl<;>simp[BT]
 rw[e,Int.emod_eq_of_lt hb Fn]
def alr{a b:Sc}(ha:a.wf)(hb:b.wf)(h0:0<=op)(Jb:op<=12)(x0:0<=x)(x1:x<=4294967295)(y0:0<=y)(y1:y<=4294967295)(h1:A3 a x=ZB)(h2:A3 b y=ZB):AF (eY op a b) (BE op 32 x y)=ZB:=by
 have Hu:=(eG op 32 x y x0 Fn y0 Fn).1;have Ey:BE op 32 x y<=4294967295:=by unfold BE;rw[dR];omega
 unfold eY;by_cases c:op=8\/op=12
 .rw[ae c];exact yZ Hu Ey
 rw[aa c];by_cases d:op=6\/op=7
 .rw[ae d];by_cases ho:xW b=ZB
  .rw[ae ho,acE hb ⟨y0,by omega⟩ h2 ho];have e:Ac .and .u64 y 31=y % 32:=arq y y0 Fn;rw[e,al7];have hz:=eG op 64 x (y % 32) x0 Fn Fn Fn;exact aiS (aie ha.r (xR Fn Fn) x0 Fn Fn Fn (fB h1) acr hz.1 hz.2) (fun hs=>av6 d x0 x1 y0 y1 hs) Hu Ey
  .rw[aa ho];exact yZ Hu Ey
 .rw[aa d];have hz:=eG op 64 x y x0 Fn y0 Fn;exact aiS (aie ha.r hb.r x0 Fn y0 Fn (fB h1) (fB h2) hz.1 hz.2) (fun hs=>av7 h0 Jb Fn Fn Fn Fn x0 x1 y0 y1 hs) Hu Ey
def Xc{l:Int}(h:Bv op l=ZB):0<=op/\op<=12/\(l=32\/l=64):=by unfold Bv fG at h;simp only[ne,aE,fy,cQ]at h;exact⟨h.1.1,h.1.2,h.2⟩
section
variable {op l:Int}{a b:Kn}
end
def rf0(h0:0<=v)(h:v<=0):0=lg v:=by obtain rfl:v=0:=Fn;rfl
def rf{lo hi:Int}(k:Nat)(e1:lo=2 ^ k)(e2:hi=2 ^ (k+1)-1)(h1:lo<=v)(h2:v<=hi):hi=lg v:=by
 have p:(0:Int)<2 ^ k:=Int.pow_pos Fn;have q1:((2 ^ k:Nat):Int)=2 ^ k:=by simp
 have q2:((2 ^ (k+1):Nat):Int)=2 ^ (k+1):=by simp
 unfold lg;rw[ai2 (n:=v.toNat) (c:=k) Fn Fn,e2]
section
variable {op:Int}{a b:Rg}(ha:a.ok)(hb:b.ok)(ma:AT a=ZB)(mb:AT b=ZB)
include ha hb
include ma mb
end
section
variable {a b:Rg}
end
def asE(k:q2)(h:p->q=q2:=by intro e;(try simp only[e,bU,-eq_self]);rfl):p->q:=fun e=>(h e).symm▸k
def aoF:List (Nat×TI):=[(2,CC),
 (39,fe),
 (46,ic)]
def vf:∀t i,(t,i)∈aoF->TIok ZF t i:=bl B1 B1 (by kernel_rfl)
def c_rmay:Cd:=⟨138,[.agg kRg],[.one .bool],rd_Rg fun a _=>[.z (AD (AT a))],T0⟩
def af1:Tr:=
(.br (.lt (.w 1) (.w 0))
 zlF
(.u (.j (.not (.lt (.w 3) (.w 2))) .nil)))
def amV:c_rmay.Ok ZF:=
 AU af1 (v_Rg []) vf AI func138<|dz fun a ha hp U g=>by
 simp only[AJ,AA,ZD]at g;simp only[af1,c_rmay,AJ,Ai,ZH,ZD,-eq_self,Rg.eta,g];apply aI<;>intro c0
 ·(unfold AT;simp_all [bI];try (intros;omega))
 ·(unfold AT;simp_all [bI];try (intros;omega))
def c_rhas:Cd:=⟨103,[.agg kRg,.one (.int .u64)],[.one .bool],rd_Rg fun a=>rdZ fun v _=>[.z (AD (AF a v))],T0⟩
def af2:Tr:=
(.call 0 [.bool] (.vs 0 4 .nil) 5
(.br (.s 5)
(.br (.lt (.w 4) (.w 0))
 zlF
(.br (.lt (.w 1) (.w 4))
 zlF
(.br (.lt (.F .i64 (.w 4)) (.w 2))
 zlF
(.u (.j (.not (.lt (.w 3) (.F .i64 (.w 4)))) .nil)))))
 zlF))
def ate:c_rhas.Ok ZF:=
 AU af2 (v_Rg [.int .u64]) vf (Am amV AI) func103<|dz fun a ha=>fun v hv hp U g=>by
 simp only[AJ,AA,ZD]at g;simp only[af2,c_rmay,c_rhas,AJ,Ai,ZH,ZD,-eq_self,bU,g];refine asE ?_
 .repeat' first|apply aI<;>intro c|exact XF
def aum{r s:Sc}(h:r=s):[Dt.z r.ul,.z r.uh,.z r.sl,.z r.sh,.z r.v,.z r.m]=[Dt.z s.ul,.z s.uh,.z s.sl,.z s.sh,.z s.v,.z s.m]:=by rw[h]
def Db(n:Int):Sc:=H9 (2 ^ (8*(min (max n 1) 8).toNat)-1)
def zD(n:Int):min (max n 1) 8=1\/min (max n 1) 8=2\/min (max n 1) 8=3\/min (max n 1) 8=4\/min (max n 1) 8=5\/min (max n 1) 8=6\/min (max n 1) 8=7\/min (max n 1) 8=8:=by omega
end Go.Proofs.YtgolejfhoefeaaaGreatDoor
