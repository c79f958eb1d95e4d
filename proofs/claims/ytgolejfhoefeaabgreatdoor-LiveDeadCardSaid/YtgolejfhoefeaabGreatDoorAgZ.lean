import Derived.Test.YtgolejfhoefeaabGreatDoorRows
import Derived.Test.YtgolejfhoefeaabGreatDoorLib
import Derived.WalkKit
import Derived.WalkSpells
import Derived.WalkLawsBesides
import Derived.Laws.EntriesVeiled
import Derived.Test.YtgolejfhoefeaabGreatDoorSyP
import Derived.Test.YtgolejfhoefeaabGreatDoorProg
import Derived.Laws.Externs
import Derived.Test.YtgolejfhoefeaabGreatDoorFrame
import Derived.Laws.OwnMore
import Derived.Deep.RegionHeld3
import Derived.Deep.RegionWith
import Derived.Deep.DeepCutAuto
import Derived.Deep.CutBlock
import Derived.Lib.BitFns
import Derived.ChangeSlices
import Derived.ChangeSame
import Derived.ChangeArms
import Derived.Deep.Slices
set_option maxRecDepth 100000
set_option maxHeartbeats 8000000
set_option linter.defProp false
set_option linter.unusedVariables false
set_option linter.unusedSimpArgs false
namespace Go.Proofs.YtgolejfhoefeaabGreatDoor
open Option renaming some->ZA,none->ZD
open Bool renaming true->ZB,false->ZC,not_eq_true'->ZL
open Nat renaming reduceAdd->ZE,reduceSub->YI,add_zero->ZP,pow_le_pow_right->YY
open Go.Proofs.Tryz renaming prog->ZF
open Go.IntKind renaming wrap->ZG,signed->ZQ,bits->YS
open BitVec renaming ofInt->ZJ
open List renaming nil_append->ZM,cons_append->YN,append_nil->YO,flatMap_cons->ZO,flatMap_nil->YW
open Go.Instr renaming index->ZZ
open Go.Proofs.Tryz
open Go.RowKit
variable {x v w op z y cc q m:Int}{i b n:Nat}{t:Bool}{cs:Array Value}{p q2:Prop}{M:BitVec 64}{l:List VK}{P:Program}{w':World}{ks:List CE}
def iJ(a:Int):Bool:=a==32||a==64
def Ar(v a:Int):Int:=if a=8 then v % 256 else if a=16 then v % 65536 else if a=32 then v % 4294967296 else v
def KG(v b:Int):Int:=if v % (2*b)<b then v % (2*b)else 18446744073709551616-2*b+v % (2*b)
def gG(v a:Int):Int:=if a=8 then KG v 128 else if a=16 then KG v 32768 else if a=32 then KG v 2147483648 else v
def pq(a:Int)(w:World):
  Calls ZF 130 #[.int .i8 a] w fun e w'=>e=.returned (.bool (iJ a))/\w=w':=by
 go_enter func130,ntmps130
 go_wp2
 all_goals go_ret
 all_goals (refine⟨alg ?_,rfl⟩;simp_all [iJ])
def vt(v a:Int)(w:World)(h0:0<=v)(h1:v<=18446744073709551615):
  Calls ZF 131 #[.int .u64 v,.int .i8 a] w fun e w'=>e=.returned (.int .u64 (Ar v a))/\w=w':=by
 go_enter func131,ntmps131
 go_wp2
 all_goals go_ret
 all_goals (refine⟨bD ?_,rfl⟩)
 all_goals (simp only[cb,jq]at *;simp only[Ar,asC,bg, *];first|rfl|(simp;done)|(simp;omega))
def abc(v a:Int)(w:World)(h0:0<=v)(h1:v<=18446744073709551615):
  Calls ZF 157 #[.int .u64 v,.int .i8 a] w fun e w'=>e=.returned (.int .u64 (gG v a))/\w=w':=by
 go_enter func157,ntmps157
 go_wp2
 all_goals go_ret
 all_goals (refine⟨bD ?_,rfl⟩)
 all_goals (simp only[cb,jq]at *;simp only[gG,KG,asC,bg,w_i8,avl,w_32,N8, *];first|rfl|(simp;done)|(simp;split<;>omega))
def dJ(v a:Int)(h0:0<=v)(h1:v<=18446744073709551615):0<=Ar v a/\Ar v a<=18446744073709551615:=by unfold Ar;split<;>(try split)<;>(try split)<;>omega
def gQ:Array Value:= #[.func (.func 158) #[] #[],.func (.func 159) #[] #[],.func (.func 160) #[] #[],.func (.func 161) #[] #[],.func (.func 162) #[] #[],.func (.func 163) #[] #[],.func (.func 164) #[] #[],.func (.func 165) #[] #[],.func (.func 166) #[] #[],.func (.func 167) #[] #[],.func (.func 168) #[] #[],.func (.func 169) #[] #[],.func (.func 170) #[] #[]]
def aqy(w:World):
  Calls ZF 132 #[] w fun e w'=>e=.returned (.agg gQ)/\Below w.heap.size w w':=by
 go_enter func132,ntmps132
 go_wp2
 exact bodyPost_ret (by simp[results,results132,go_sem];rfl) rfl ⟨rfl,(Below.refl _ _).alloc (Nat.le_refl _) _⟩
def ix0(W:World):(ZZ 223 (.agg gQ) (.int .i8 0)).run ZF W=.ok (.func (.func 158) #[] #[]) W:=by kernel_rfl
def ix1(W:World):(ZZ 223 (.agg gQ) (.int .i8 1)).run ZF W=.ok (.func (.func 159) #[] #[]) W:=by kernel_rfl
def ix2(W:World):(ZZ 223 (.agg gQ) (.int .i8 2)).run ZF W=.ok (.func (.func 160) #[] #[]) W:=by kernel_rfl
def ix3(W:World):(ZZ 223 (.agg gQ) (.int .i8 3)).run ZF W=.ok (.func (.func 161) #[] #[]) W:=by kernel_rfl
def ix4(W:World):(ZZ 223 (.agg gQ) (.int .i8 4)).run ZF W=.ok (.func (.func 162) #[] #[]) W:=by kernel_rfl
def ix5(W:World):(ZZ 223 (.agg gQ) (.int .i8 5)).run ZF W=.ok (.func (.func 163) #[] #[]) W:=by kernel_rfl
def ix6(W:World):(ZZ 223 (.agg gQ) (.int .i8 6)).run ZF W=.ok (.func (.func 164) #[] #[]) W:=by kernel_rfl
def ix7(W:World):(ZZ 223 (.agg gQ) (.int .i8 7)).run ZF W=.ok (.func (.func 165) #[] #[]) W:=by kernel_rfl
def ix8(W:World):(ZZ 223 (.agg gQ) (.int .i8 8)).run ZF W=.ok (.func (.func 166) #[] #[]) W:=by kernel_rfl
def ix9(W:World):(ZZ 223 (.agg gQ) (.int .i8 9)).run ZF W=.ok (.func (.func 167) #[] #[]) W:=by kernel_rfl
def ix10(W:World):(ZZ 223 (.agg gQ) (.int .i8 10)).run ZF W=.ok (.func (.func 168) #[] #[]) W:=by kernel_rfl
def ix11(W:World):(ZZ 223 (.agg gQ) (.int .i8 11)).run ZF W=.ok (.func (.func 169) #[] #[]) W:=by kernel_rfl
def ix12(W:World):(ZZ 223 (.agg gQ) (.int .i8 12)).run ZF W=.ok (.func (.func 170) #[] #[]) W:=by kernel_rfl
def B4(op w a b y:Int):Int:=
 if op=0 then(a+b) % 18446744073709551616
 else if op=1 then(a-b) % 18446744073709551616
 else if op=2 then(a*b) % 18446744073709551616
 else if op=3 then(if b=0 then 0 else a / b)
 else if op=4 then((a.toNat ||| b.toNat:Nat):Int)
 else if op=5 then((a.toNat &&& b.toNat:Nat):Int)
 else if op=6 then(a*2 ^ y.toNat) % 18446744073709551616
 else if op=7 then a / 2 ^ y.toNat
 else if op=8 then(0-a) % 18446744073709551616
 else if op=9 then(if b=0 then a else a % b)
 else if op=10 then((a.toNat ^^^ b.toNat:Nat):Int)
 else if op=11 then b
 else(wrap64 (gG a w) / 2 ^ y.toNat) % 18446744073709551616
def BI(op w a b:Int):Int:=Ar (B4 op w (Ar a w) (Ar b w) (Ar b w % w)) w
def aqL(a b y a1:Int)(w:World)(h0:0<=a)(h1:a<=18446744073709551615)(h2:0<=b)(h3:b<=18446744073709551615)(h4:0<=y)(h5:y<=63):
  Calls ZF 158 #[.int .u64 a,.int .u64 b,.int .u64 y,.int .i8 a1] w fun e w'=>e=.returned (.int .u64 (B4 0 a1 a b y))/\w=w':=by
 go_enter func158,ntmps158
 go_wp2
 all_goals go_ret
 all_goals (refine⟨bD ?_,rfl⟩)
 all_goals simp[B4,bg]
def aqK(a b y a1:Int)(w:World)(h0:0<=a)(h1:a<=18446744073709551615)(h2:0<=b)(h3:b<=18446744073709551615)(h4:0<=y)(h5:y<=63):
  Calls ZF 159 #[.int .u64 a,.int .u64 b,.int .u64 y,.int .i8 a1] w fun e w'=>e=.returned (.int .u64 (B4 1 a1 a b y))/\w=w':=by
 go_enter func159,ntmps159
 go_wp2
 all_goals go_ret
 all_goals (refine⟨bD ?_,rfl⟩)
 all_goals simp[B4,bg]
def aqJ(a b y a1:Int)(w:World)(h0:0<=a)(h1:a<=18446744073709551615)(h2:0<=b)(h3:b<=18446744073709551615)(h4:0<=y)(h5:y<=63):
  Calls ZF 160 #[.int .u64 a,.int .u64 b,.int .u64 y,.int .i8 a1] w fun e w'=>e=.returned (.int .u64 (B4 2 a1 a b y))/\w=w':=by
 go_enter func160,ntmps160
 go_wp2
 all_goals go_ret
 all_goals (refine⟨bD ?_,rfl⟩)
 all_goals simp[B4,bg]
def aqI(a b y a1:Int)(w:World)(h0:0<=a)(h1:a<=18446744073709551615)(h2:0<=b)(h3:b<=18446744073709551615)(h4:0<=y)(h5:y<=63):
  Calls ZF 161 #[.int .u64 a,.int .u64 b,.int .u64 y,.int .i8 a1] w fun e w'=>e=.returned (.int .u64 (B4 3 a1 a b y))/\w=w':=by
 by_cases hz:b=0
 .subst hz
  go_enter func161,ntmps161
  go_wp2
  all_goals go_ret
  all_goals (refine⟨bD ?_,rfl⟩)
  all_goals simp[B4]
 .go_enter func161,ntmps161
  go_wp2
  all_goals go_ret
  all_goals (refine⟨bD ?_,rfl⟩)
  all_goals simp[B4,hz]
def aqH(a b y a1:Int)(w:World)(h0:0<=a)(h1:a<=18446744073709551615)(h2:0<=b)(h3:b<=18446744073709551615)(h4:0<=y)(h5:y<=63):
  Calls ZF 162 #[.int .u64 a,.int .u64 b,.int .u64 y,.int .i8 a1] w fun e w'=>e=.returned (.int .u64 (B4 4 a1 a b y))/\w=w':=by
 go_enter func162,ntmps162
 go_wp2
 all_goals go_ret
 all_goals (refine⟨bD ?_,rfl⟩)
 all_goals (rw[u64_or _ _ h0 Fn h2 Fn];simp[B4])
def aqG(a b y a1:Int)(w:World)(h0:0<=a)(h1:a<=18446744073709551615)(h2:0<=b)(h3:b<=18446744073709551615)(h4:0<=y)(h5:y<=63):
  Calls ZF 163 #[.int .u64 a,.int .u64 b,.int .u64 y,.int .i8 a1] w fun e w'=>e=.returned (.int .u64 (B4 5 a1 a b y))/\w=w':=by
 go_enter func163,ntmps163
 go_wp2
 all_goals go_ret
 all_goals (refine⟨bD ?_,rfl⟩)
 all_goals (rw[u64_and _ _ h0 Fn h2 Fn];simp[B4])
def aqF(a b y a1:Int)(w:World)(h0:0<=a)(h1:a<=18446744073709551615)(h2:0<=b)(h3:b<=18446744073709551615)(h4:0<=y)(h5:y<=63):
  Calls ZF 164 #[.int .u64 a,.int .u64 b,.int .u64 y,.int .i8 a1] w fun e w'=>e=.returned (.int .u64 (B4 6 a1 a b y))/\w=w':=by
 go_enter func164,ntmps164
 go_wp2
 all_goals go_ret
 all_goals (refine⟨bD ?_,rfl⟩)
 all_goals simp[B4,bg]
def aqE(a b y a1:Int)(w:World)(h0:0<=a)(h1:a<=18446744073709551615)(h2:0<=b)(h3:b<=18446744073709551615)(h4:0<=y)(h5:y<=63):
  Calls ZF 165 #[.int .u64 a,.int .u64 b,.int .u64 y,.int .i8 a1] w fun e w'=>e=.returned (.int .u64 (B4 7 a1 a b y))/\w=w':=by
 go_enter func165,ntmps165
 go_wp2
 all_goals go_ret
 all_goals (refine⟨bD ?_,rfl⟩)
 all_goals simp[B4]
def aqD(a b y a1:Int)(w:World)(h0:0<=a)(h1:a<=18446744073709551615)(h2:0<=b)(h3:b<=18446744073709551615)(h4:0<=y)(h5:y<=63):
  Calls ZF 166 #[.int .u64 a,.int .u64 b,.int .u64 y,.int .i8 a1] w fun e w'=>e=.returned (.int .u64 (B4 8 a1 a b y))/\w=w':=by
 go_enter func166,ntmps166
 go_wp2
 all_goals go_ret
 all_goals (refine⟨bD ?_,rfl⟩)
 all_goals simp[B4,bg]
def aqC(a b y a1:Int)(w:World)(h0:0<=a)(h1:a<=18446744073709551615)(h2:0<=b)(h3:b<=18446744073709551615)(h4:0<=y)(h5:y<=63):
  Calls ZF 167 #[.int .u64 a,.int .u64 b,.int .u64 y,.int .i8 a1] w fun e w'=>e=.returned (.int .u64 (B4 9 a1 a b y))/\w=w':=by
 by_cases hz:b=0
 .subst hz
  go_enter func167,ntmps167
  go_wp2
  all_goals go_ret
  all_goals (refine⟨bD ?_,rfl⟩)
  all_goals simp[B4]
 .go_enter func167,ntmps167
  go_wp2
  all_goals go_ret
  all_goals (refine⟨bD ?_,rfl⟩)
  all_goals simp[B4,hz]
def alt(a b y a1:Int)(w:World)(h0:0<=a)(h1:a<=18446744073709551615)(h2:0<=b)(h3:b<=18446744073709551615)(h4:0<=y)(h5:y<=63):
  Calls ZF 168 #[.int .u64 a,.int .u64 b,.int .u64 y,.int .i8 a1] w fun e w'=>e=.returned (.int .u64 (B4 10 a1 a b y))/\w=w':=by
 go_enter func168,ntmps168
 go_wp2
 all_goals go_ret
 all_goals (refine⟨bD ?_,rfl⟩)
 all_goals (rw[u64_xor _ _ h0 Fn h2 Fn];simp[B4])
def als(a b y a1:Int)(w:World)(h0:0<=a)(h1:a<=18446744073709551615)(h2:0<=b)(h3:b<=18446744073709551615)(h4:0<=y)(h5:y<=63):
  Calls ZF 169 #[.int .u64 a,.int .u64 b,.int .u64 y,.int .i8 a1] w fun e w'=>e=.returned (.int .u64 (B4 11 a1 a b y))/\w=w':=by
 go_enter func169,ntmps169
 go_wp2
 all_goals go_ret
 all_goals (refine⟨bD ?_,rfl⟩)
 all_goals simp[B4]
def alr(a b y a1:Int)(w:World)(h0:0<=a)(h1:a<=18446744073709551615)(h2:0<=b)(h3:b<=18446744073709551615)(h4:0<=y)(h5:y<=63):
  Calls ZF 170 #[.int .u64 a,.int .u64 b,.int .u64 y,.int .i8 a1] w fun e w'=>e=.returned (.int .u64 (B4 12 a1 a b y))/\w=w':=by
 go_enter func170,ntmps170
 go_wp2_with (go_at_call 157;refine(abc _ _ _ Fn Fn).mono ?_;rintro e w' ⟨rfl,rfl⟩)
 all_goals go_ret
 all_goals (refine⟨bD ?_,rfl⟩)
 all_goals simp[B4,bg]
attribute [local go_sem] ix0 ix1 ix2 ix3 ix4 ix5 ix6 ix7 ix8 ix9 ix10 ix11 ix12
def ab3(h4:0<=op)(h5:op<=12):op=0\/op=1\/op=2\/op=3\/op=4\/op=5\/op=6\/op=7\/op=8\/op=9\/op=10\/op=11\/op=12:=by omega
def atb(k:Nat):(0:Int)<2 ^ k:=Int.pow_pos Fn
def amD(op w a b y:Int)(h0:0<=a)(h1:a<=18446744073709551615)(h2:0<=b)(h3:b<=18446744073709551615):0<=B4 op w a b y/\B4 op w a b y<=18446744073709551615:=by
 have e1:=Int.ediv_nonneg h0 h2;have e2:=Int.ediv_le_self b h0;have e3:=Nat.or_lt_two_pow (n:=64) (x:=a.toNat) (y:=b.toNat) Fn Fn;have e4:=Nat.and_le_left (n:=a.toNat) (m:=b.toNat);have e5:=Nat.xor_lt_two_pow (n:=64) (x:=a.toNat) (y:=b.toNat) Fn Fn;have e6:=Int.ediv_nonneg h0 (Int.le_of_lt (atb y.toNat));have e7:=Int.ediv_le_self (2 ^ y.toNat) h0;have e8:b≠0->0<=a % b/\a % b<b:=fun h=>⟨Int.emod_nonneg a h,Int.emod_lt_of_pos a Fn⟩
 unfold B4
 repeat' split
 all_goals omega
def ymod(w b:Int)(h2:0<=b)(h3:b<=18446744073709551615)(hw:iJ w=ZB):bits .and .u64 b (w-1)=b % w/\32<=w/\w<=64/\0<=b % w/\b % w<=63:=by
 simp[iJ]at hw;rcases hw with rfl|rfl
 .exact⟨Ws b h2 h3,by omega,by omega,by omega,by omega⟩
 .exact⟨Wq b h2 h3,by omega,by omega,by omega,by omega⟩
def auO(op w1 a b:Int)(w:World)(h0:0<=a)(h1:a<=18446744073709551615)(h2:0<=b)(h3:b<=18446744073709551615)(h4:0<=op)(h5:op<=12)(hw:iJ w1=ZB):
  Calls ZF 96 #[.int .i8 op,.int .i8 w1,.int .u64 a,.int .u64 b] w fun e w'=>e=.returned (.tuple #[.int .u64 (BI op w1 a b),.int .i64 0])/\Below w.heap.size w w':=by
 obtain⟨A7,DO⟩:=dJ a w1 h0 h1;obtain⟨JP,Ds⟩:=dJ b w1 h2 h3;obtain⟨hy,Nw,Kf,QA,O6⟩:=ymod w1 (Ar b w1) JP Ds hw;obtain⟨ES,LX⟩:=amD op w1 (Ar a w1) (Ar b w1) (Ar b w1 % w1) A7 DO JP Ds;rcases ab3 h4 h5 with rfl|rfl|rfl|rfl|rfl|rfl|rfl|rfl|rfl|rfl|rfl|rfl|rfl
 all_goals
  go_enter func96,ntmps96
  go_wp2_with (first
   |(go_at_call 130;refine(pq _ _).mono ?_;rintro e w' ⟨rfl,rfl⟩)
   |(go_at_call 131;refine(vt _ _ _ Fn Fn).mono ?_;rintro e w' ⟨rfl,rfl⟩)
   |(go_at_call 132;refine(aqy _).mono ?_;rintro e w1 ⟨rfl,JP⟩)
   |(go_at_call 158;refine(aqL _ _ _ _ _ Fn Fn Fn Fn Fn Fn).mono ?_;rintro e w' ⟨rfl,rfl⟩)
   |(go_at_call 159;refine(aqK _ _ _ _ _ Fn Fn Fn Fn Fn Fn).mono ?_;rintro e w' ⟨rfl,rfl⟩)
   |(go_at_call 160;refine(aqJ _ _ _ _ _ Fn Fn Fn Fn Fn Fn).mono ?_;rintro e w' ⟨rfl,rfl⟩)
   |(go_at_call 161;refine(aqI _ _ _ _ _ Fn Fn Fn Fn Fn Fn).mono ?_;rintro e w' ⟨rfl,rfl⟩)
   |(go_at_call 162;refine(aqH _ _ _ _ _ Fn Fn Fn Fn Fn Fn).mono ?_;rintro e w' ⟨rfl,rfl⟩)
   |(go_at_call 163;refine(aqG _ _ _ _ _ Fn Fn Fn Fn Fn Fn).mono ?_;rintro e w' ⟨rfl,rfl⟩)
   |(go_at_call 164;refine(aqF _ _ _ _ _ Fn Fn Fn Fn Fn Fn).mono ?_;rintro e w' ⟨rfl,rfl⟩)
   |(go_at_call 165;refine(aqE _ _ _ _ _ Fn Fn Fn Fn Fn Fn).mono ?_;rintro e w' ⟨rfl,rfl⟩)
   |(go_at_call 166;refine(aqD _ _ _ _ _ Fn Fn Fn Fn Fn Fn).mono ?_;rintro e w' ⟨rfl,rfl⟩)
   |(go_at_call 167;refine(aqC _ _ _ _ _ Fn Fn Fn Fn Fn Fn).mono ?_;rintro e w' ⟨rfl,rfl⟩)
   |(go_at_call 168;refine(alt _ _ _ _ _ Fn Fn Fn Fn Fn Fn).mono ?_;rintro e w' ⟨rfl,rfl⟩)
   |(go_at_call 169;refine(als _ _ _ _ _ Fn Fn Fn Fn Fn Fn).mono ?_;rintro e w' ⟨rfl,rfl⟩)
   |(go_at_call 170;refine(alr _ _ _ _ _ Fn Fn Fn Fn Fn Fn).mono ?_;rintro e w' ⟨rfl,rfl⟩))
  go_ret2
  exact⟨rfl,‹_›⟩
def auN(op w1 a b:Int)(w:World)(JR:(decide (op<0)||decide (12<op) ||!iJ w1)=ZB):
  Calls ZF 96 #[.int .i8 op,.int .i8 w1,.int .u64 a,.int .u64 b] w fun e w'=>e=.returned (.tuple #[.int .u64 0,.int .i64 2])/\w=w':=by
 have hc:op<0\/(0<=op/\12<op)\/(0<=op/\op<=12/\iJ w1=ZC):=by
  by_cases h1:op<0
  .exact .inl h1
  .by_cases h2:12<op
   .exact .inr (.inl ⟨by omega,h2⟩)
   .exact .inr (.inr ⟨by omega,by omega,by simpa[h1,h2]using JR⟩)
 clear JR;rcases hc with h|⟨h,h'⟩|⟨h,h',hw⟩
 all_goals
  go_enter func96,ntmps96
  go_wp2_with (go_at_call 130;refine(pq _ _).mono ?_;rintro e w' ⟨rfl,rfl⟩)
  go_ret2
  exact⟨rfl,rfl⟩
def dM(v:Int):Ar v 32=v % 4294967296:=by simp[Ar]
def dK(v:Int):Ar v 64=v:=by simp[Ar]
def fc(op w a b:Int)(h0:0<=a)(h1:a<=18446744073709551615)(h2:0<=b)(h3:b<=18446744073709551615):0<=BI op w a b/\BI op w a b<=18446744073709551615:=by obtain⟨A7,DO⟩:=dJ a w h0 h1;obtain⟨JP,Ds⟩:=dJ b w h2 h3;obtain⟨ES,LX⟩:=amD op w (Ar a w) (Ar b w) (Ar b w % w) A7 DO JP Ds;exact dJ _ _ ES LX
def jz(v w:Int):Ar (Ar v w) w=Ar v w:=by unfold Ar;split<;>(try split)<;>(try split)<;>omega
def aay(op w a b:Int):BI op w (Ar a w) (Ar b w)=BI op w a b:=by unfold BI;rw[jz,jz]
def aj4(op w a b:Int):Ar (BI op w a b) w=BI op w a b:=by unfold BI;rw[jz]
structure Rg where
 ul:Int
 uh:Int
 sl:Int
 sh:Int
 deriving DecidableEq
def Rg.wf(r:Rg):Prop:=(0<=r.ul/\r.ul<=18446744073709551615)/\(0<=r.uh/\r.uh<=18446744073709551615)/\(-9223372036854775808<=r.sl/\r.sl<=9223372036854775807)/\(-9223372036854775808<=r.sh/\r.sh<=9223372036854775807)
abbrev BY(v:Int):Int:=wrap64 v
def dd(v:Int):BY v=ZG .i64 v:=(Go.IntWalk.i64_left v).symm
abbrev u64(v:Int):Int:=ZG .u64 v
def jf(h0:0<=v)(h1:v<=18446744073709551615):BY v=if v<9223372036854775808 then v else v-18446744073709551616:=by rw[dd,aK];split<;>omega
def gf(v:Int) : -9223372036854775808<=BY v/\BY v<=9223372036854775807:=by rw[dd,aK];omega
def amL(h0 : -9223372036854775808<=v)(h1:v<=9223372036854775807):u64 v=if 0<=v then v else v+18446744073709551616:=by unfold u64;rw[bg];split<;>omega
def amM(v:Int):0<=u64 v/\u64 v<=18446744073709551615:=by unfold u64;rw[bg];omega
def ball:Rg:=⟨0,18446744073709551615,-9223372036854775808,9223372036854775807⟩
def G5(v:Int):Rg:=⟨v,v,BY v,BY v⟩
def AS(r:Rg):Bool:=decide (r.ul<=r.uh)&&decide (r.sl<=r.sh)
def AI(r:Rg)(v:Int):Bool:=AS r&&((decide (r.ul<=v)&&decide (v<=r.uh))&&(decide (r.sl<=BY v)&&decide (BY v<=r.sh)))
def J3(v:Int):Bool:=decide (9223372036854775808<=v)
def Bb(r:Rg):Rg:=if J3 r.ul=J3 r.uh then⟨r.ul,r.uh,max r.sl (BY r.ul),min r.sh (BY r.uh)⟩else r
def CT(r:Rg):Rg:=if decide (r.sl<0)=decide (r.sh<0)then⟨max r.ul (u64 r.sl),min r.uh (u64 r.sh),r.sl,r.sh⟩else r
def Ba(r:Rg):Bool:=AS r&&(AS (Bb r)&&(AS (CT (Bb r))&&AS (Bb (CT (Bb r)))))
def AF(r:Rg):Rg:=if Ba r=ZB then Bb (CT (Bb r))else ball
def eH(r:Rg):Bool:=decide (r.ul=r.uh)&&AI r r.ul
def aE(r:Rg):Int:=if eH r=ZB then r.ul else 0
def nn(a b:Rg):Rg:=⟨min a.ul b.ul,max a.uh b.uh,min a.sl b.sl,max a.sh b.sh⟩
def lg(a b:Rg):Rg:=⟨max a.ul b.ul,min a.uh b.uh,max a.sl b.sl,min a.sh b.sh⟩
def jx(a b:Rg):Rg:=if AS a=ZB/\AS b=ZB then nn a b else ball
def fx(a b:Rg):Bool:=AS a&&(AS b&&Ba (lg a b))
def jw(a b:Rg):Rg:=if fx a b=ZB then AF (lg a b)else ball
def ME(a b:Rg):Bool:=AS a&&(AS b&&decide (jx a b=b))
def dj(r:Rg):AS r=ZB↔r.ul<=r.uh/\r.sl<=r.sh:=by simp[AS]
def aR(r:Rg)(v:Int):AI r v=ZB↔r.ul<=v/\v<=r.uh/\r.sl<=BY v/\BY v<=r.sh:=by
 simp only[AI,AS,ne,ax];constructor
 .rintro ⟨_,⟨h1,h2⟩,h3,h4⟩;exact⟨h1,h2,h3,h4⟩
 .rintro ⟨h1,h2,h3,h4⟩;exact⟨⟨by omega,by omega⟩,⟨h1,h2⟩,h3,h4⟩
def auq(a b:Int):J3 a=J3 b↔(9223372036854775808<=a↔9223372036854775808<=b):=by unfold J3;exact decide_eq_decide
def da{r:Rg}(h:r.wf):(Bb r).wf:=by
 unfold Bb;split
 .have h1:=gf r.ul;have h2:=gf r.uh;obtain⟨a1,a2,a3,a4⟩:=h;refine⟨a1,a2,?_,?_⟩<;>simp only<;>omega
 .exact h
def dN{r:Rg}(h:r.wf):(CT r).wf:=by
 unfold CT;split
 .have h1:=amM r.sl;have h2:=amM r.sh;obtain⟨a1,a2,a3,a4⟩:=h;refine⟨?_,?_,a3,a4⟩<;>simp only<;>omega
 .exact h
def fz:ball.wf:=by unfold Rg.wf ball;simp
def tU{r:Rg}(h:r.wf):(AF r).wf:=by
 unfold AF;split
 .exact da (dN (da h))
 .exact fz
def yw(h0:0<=v)(h1:v<=18446744073709551615):(G5 v).wf:=⟨⟨h0,h1⟩,⟨h0,h1⟩,gf v,gf v⟩
def nr{r:Rg}(h:r.wf)(h0:0<=v)(h1:v<=18446744073709551615):AI (Bb r) v=AI r v:=by
 rw[ar,aR,aR];unfold Bb;split
 next hh=>rw[auq]at hh;obtain⟨a1,a2,a3,a4⟩:=h;simp only;rw[jf h0 h1,jf a1.1 a1.2,jf a2.1 a2.2];split<;>split<;>split<;>omega
 .exact Iff.rfl
def yk{r:Rg}(h:r.wf)(h0:0<=v)(h1:v<=18446744073709551615):AI (CT r) v=AI r v:=by
 rw[ar,aR,aR];unfold CT;split
 next hh=>rw[decide_eq_decide]at hh;obtain⟨a1,a2,a3,a4⟩:=h;simp only;rw[jf h0 h1,amL a3.1 a3.2,amL a4.1 a4.2];split<;>split<;>split<;>omega
 .exact Iff.rfl
def cU{r:Rg}(h:AI r v=ZB):AS r=ZB:=by unfold AI at h;rw[ne]at h;exact h.1
def vz{r:Rg}(h:r.wf)(h0:0<=v)(h1:v<=18446744073709551615)(hv:AI r v=ZB):Ba r=ZB:=by have e1:=nr h h0 h1;have e2:=yk (da h) h0 h1;have e3:=nr (dN (da h)) h0 h1;rw[hv]at e1;rw[e1]at e2;rw[e2]at e3;simp[Ba,cU hv,cU e1,cU e2,cU e3]
def rF{r:Rg}(h:r.wf)(h0:0<=v)(h1:v<=18446744073709551615)(hk:Ba r=ZB):AI (AF r) v=AI r v:=by unfold AF;rw[ae hk,nr (dN (da h)) h0 h1,yk (da h) h0 h1,nr h h0 h1]
def ajx{r:Rg}(hk:Ba r=ZB):AS (AF r)=ZB:=by have:=hk;unfold Ba at this;simp only[ne]at this;unfold AF;rw[ae hk];exact this.2.2.2
def rC{r:Rg}(h:eH r=ZB)(h0:0<=v)(h1:v<=18446744073709551615):AI r v=decide (v=r.ul):=by
 unfold eH at h;rw[ne,ax]at h;obtain⟨e,hh⟩:=h;by_cases hv:v=r.ul
 .rw[hv,hh];simp
 .rw[fB hv];cases hb:AI r v
  .rfl
  .have:=(aR r v).1 hb;omega
def KN(x:Int)(i:Nat):Bool:=(ZJ 64 x).getLsbD i
def ajt(x:BitVec 64):ZJ 64 (x.toNat:Int)=x:=by simp
def acW(x:Int):ZJ 64 (ZG .i64 x)=ZJ 64 x:=by apply BitVec.eq_of_toNat_eq;rw[BitVec.toNat_ofInt,BitVec.toNat_ofInt,aK];omega
def asa(x y:Int):ZJ 64 (bits .and .i64 x y)=ZJ 64 x &&& ZJ 64 y:=(acW _).trans (ajt _)
def ar9(x y:Int):ZJ 64 (bits .xor .i64 x y)=ZJ 64 x ^^^ ZJ 64 y:=(acW _).trans (ajt _)
def afw(x y:Int)(i:Nat):KN (bits .and .i64 x y) i=(KN x i&&KN y i):=by unfold KN;rw[asa,BitVec.getLsbD_and]
def uf(x y:Int)(i:Nat):KN (bits .xor .i64 x y) i=(KN x i ^^ KN y i):=by unfold KN;rw[ar9,BitVec.getLsbD_xor]
def oH(h0 : -9223372036854775808<=x)(h1:x<=9223372036854775807):decide (x<0)=KN x 63:=by unfold KN;rw[BitVec.getLsbD,Nat.testBit_eq_decide_div_mod_eq,decide_eq_decide,BitVec.toNat_ofInt];omega
def al1(op:BinOp)(x y:Int):∃z,bits op .i64 x y=ZG .i64 z:=⟨_,rfl⟩
def anV(op:BinOp)(x y:Int) : -9223372036854775808<=bits op .i64 x y/\bits op .i64 x y<=9223372036854775807:=by obtain⟨z,h⟩:=al1 op x y;rw[h,<-dd];exact gf z
def ahx{a b:Int}(a0 : -9223372036854775808<=a)(a1:a<=9223372036854775807)(b0 : -9223372036854775808<=b)(b1:b<=9223372036854775807):
  decide (0<=bits .and .i64 (bits .xor .i64 a (wrap64 (a+b))) (bits .xor .i64 b (wrap64 (a+b))))=decide (-9223372036854775808<=a+b/\a+b<=9223372036854775807):=by
 have hs:=gf (a+b);have hw:BY (a+b)=(a+b+9223372036854775808) % 18446744073709551616-9223372036854775808:=by rw[dd];exact aK _
 have hb:=anV .and (bits .xor .i64 a (BY (a+b))) (bits .xor .i64 b (BY (a+b)));have e:=oH hb.1 hb.2;rw[afw,uf,uf,<-oH a0 a1,<-oH b0 b1,<-oH hs.1 hs.2]at e;show decide (0<=bits .and .i64 (bits .xor .i64 a (BY (a+b))) (bits .xor .i64 b (BY (a+b))))=_;generalize bits .and .i64 (bits .xor .i64 a (BY (a+b))) (bits .xor .i64 b (BY (a+b)))=t at e hb;generalize BY (a+b)=s at *;rw[decide_eq_decide];by_cases h1:a<0<;>by_cases h2:b<0<;>by_cases h3:s<0<;>simp[h1,h2,h3]at e<;>omega
def adQ{a b:Int}(a0 : -9223372036854775808<=a)(a1:a<=9223372036854775807)(b0 : -9223372036854775808<=b)(b1:b<=9223372036854775807):
  decide (0<=bits .and .i64 (bits .xor .i64 a b) (bits .xor .i64 a (wrap64 (a-b))))=decide (-9223372036854775808<=a-b/\a-b<=9223372036854775807):=by
 have hs:=gf (a-b);have hw:BY (a-b)=(a-b+9223372036854775808) % 18446744073709551616-9223372036854775808:=by rw[dd];exact aK _
 have hb:=anV .and (bits .xor .i64 a b) (bits .xor .i64 a (BY (a-b)));have e:=oH hb.1 hb.2;rw[afw,uf,uf,<-oH a0 a1,<-oH b0 b1,<-oH hs.1 hs.2]at e;show decide (0<=bits .and .i64 (bits .xor .i64 a b) (bits .xor .i64 a (BY (a-b))))=_;generalize bits .and .i64 (bits .xor .i64 a b) (bits .xor .i64 a (BY (a-b)))=t at e hb;generalize BY (a-b)=s at *;rw[decide_eq_decide];by_cases h1:a<0<;>by_cases h2:b<0<;>by_cases h3:s<0<;>simp[h1,h2,h3]at e<;>omega
def aA(n:Nat):Nat:=if n=0 then 0 else Nat.log2 n+1
def kR(v:Int):Int:=2 ^ aA v.toNat-1
def rD(n:Nat):n<2 ^ aA n:=by
 unfold aA;split
 .subst_vars;simp
 .exact Nat.lt_log2_self
def ajy(h:n≠0):2 ^ (aA n-1)<=n:=by unfold aA;rw[aa h];exact Nat.log2_self_le h
def gF{k:Nat}(h:n<2 ^ k):aA n<=k:=by
 rcases Nat.eq_zero_or_pos n with h0|h0
 .simp[aA,h0]
 .have h1:=ajy (n:=n) Fn;rcases bn k (aA n)with hk|hk
  .have:2 ^ k<=2 ^ (aA n-1):=YY Fn Fn;omega
  .exact hk
def ac2(h0:0<=v)(h:v.toNat<2 ^ aA m.toNat):v<=kR m:=by
 unfold kR;have:((2:Int) ^ aA m.toNat)=((2 ^ aA m.toNat:Nat):Int):=by simp
 rw[this];omega
def vA(h:v<=18446744073709551615):0<=kR v/\kR v<=18446744073709551615:=by
 have h1:v.toNat<2 ^ 64:=Fn;have h2:=gF h1;have h3:2 ^ aA v.toNat<=2 ^ 64:=YY Fn h2;have h4:0<2 ^ aA v.toNat:=Nat.pow_pos Fn;unfold kR;have:((2:Int) ^ aA v.toNat)=((2 ^ aA v.toNat:Nat):Int):=by simp
 rw[this];omega
def Ff(a b:Rg):Rg:=
 ⟨if a.uh+b.uh<=18446744073709551615 then a.ul+b.ul else 0,if a.uh+b.uh<=18446744073709551615 then a.uh+b.uh else 18446744073709551615,
  if(-9223372036854775808<=a.sl+b.sl/\a.sl+b.sl<=9223372036854775807)/\(-9223372036854775808<=a.sh+b.sh/\a.sh+b.sh<=9223372036854775807)then a.sl+b.sl else -9223372036854775808,
  if(-9223372036854775808<=a.sl+b.sl/\a.sl+b.sl<=9223372036854775807)/\(-9223372036854775808<=a.sh+b.sh/\a.sh+b.sh<=9223372036854775807)then a.sh+b.sh else 9223372036854775807⟩
def Fe(a b:Rg):Rg:=
 ⟨if b.uh<=a.ul then a.ul-b.uh else 0,if b.uh<=a.ul then a.uh-b.ul else 18446744073709551615,
  if(-9223372036854775808<=a.sl-b.sh/\a.sl-b.sh<=9223372036854775807)/\(-9223372036854775808<=a.sh-b.sl/\a.sh-b.sl<=9223372036854775807)then a.sl-b.sh else -9223372036854775808,
  if(-9223372036854775808<=a.sl-b.sh/\a.sl-b.sh<=9223372036854775807)/\(-9223372036854775808<=a.sh-b.sl/\a.sh-b.sl<=9223372036854775807)then a.sh-b.sl else 9223372036854775807⟩
def bu(l h:Int):Rg:=⟨l,h,-9223372036854775808,9223372036854775807⟩
def GS(b:Rg):Nat:=(b.ul % 64).toNat
def CS(op:Int)(a b:Rg):Rg:=
 if op=11 then b else if op=0 then Ff a b else if op=1 then Fe a b
 else if op=5 then bu 0 (min a.uh b.uh)
 else if op=4 then bu (max a.ul b.ul) (kR (max a.uh b.uh))
 else if op=10 then bu 0 (kR (max a.uh b.uh))
 else if op=3 then(if 0<b.ul then bu (a.ul / b.uh) (a.uh / b.ul)else bu 0 a.uh)
 else if op=9 then(if 0<b.ul then bu 0 (min a.uh (b.uh-1))else bu 0 a.uh)
 else if op=7 then(if eH b=ZB then bu (a.ul / 2 ^ GS b) (a.uh / 2 ^ GS b)else ball)
 else if op=6 then(if eH b=ZB/\aA a.uh.toNat+GS b<=64 then bu (a.ul*2 ^ GS b) (a.uh*2 ^ GS b)else ball)
 else ball
def DT(op:Int)(a b:Rg):Rg:=if AS a=ZB/\AS b=ZB then AF (CS op a b)else ball
def kE(v:Int)(h0:0<=v)(h1:v<=18446744073709551615):AI ball v=ZB:=by rw[aR];have:=gf v;exact⟨h0,h1,this.1,this.2⟩
def jZ{l h:Int}(h0:l<=v)(h1:v<=h):AI (bu l h) v=ZB:=by rw[aR];have:=gf v;exact⟨h0,h1,this.1,this.2⟩
def aiG{r:Rg}(hr:r.wf)(h0:0<=v)(h1:v<=18446744073709551615)(h:AI r v=ZB):AI (AF r) v=ZB:=by rw[rF hr h0 h1 (vz hr h0 h1 h),h]
def arG{a b:Rg}(ha:a.wf)(hb:b.wf)(v0:0<=v)(v1:v<=18446744073709551615)(w0:0<=w)(w1:w<=18446744073709551615)(h1:AI a v=ZB)(h2:AI b w=ZB):
  AI (Ff a b) ((v+w) % 18446744073709551616)=ZB:=by
 rw[aR]at h1 h2 ⊢;rw[jf v0 v1]at h1;rw[jf w0 w1]at h2;rw[jf Fn Fn];obtain⟨a1,a2,a3,a4⟩:=ha;obtain⟨b1,b2,b3,b4⟩:=hb;unfold Ff;simp only;refine⟨?_,?_,?_,?_⟩
 .exact YG
 .exact YG
 .exact XK
 .exact XK
def arH{a b:Rg}(ha:a.wf)(hb:b.wf)(v0:0<=v)(v1:v<=18446744073709551615)(w0:0<=w)(w1:w<=18446744073709551615)(h1:AI a v=ZB)(h2:AI b w=ZB):
  AI (Fe a b) ((v-w) % 18446744073709551616)=ZB:=by
 rw[aR]at h1 h2 ⊢;rw[jf v0 v1]at h1;rw[jf w0 w1]at h2;rw[jf Fn Fn];obtain⟨a1,a2,a3,a4⟩:=ha;obtain⟨b1,b2,b3,b4⟩:=hb;unfold Fe;simp only;refine⟨?_,?_,?_,?_⟩
 .exact YG
 .exact YG
 .exact XK
 .exact XK
def pP{l h:Int}(h0:0<=l)(h1:l<=18446744073709551615)(h2:0<=h)(h3:h<=18446744073709551615):(bu l h).wf:=⟨⟨h0,h1⟩,⟨h2,h3⟩,by simp[bu],by simp[bu]⟩
def apw{a b:Rg}(ha:a.wf)(hb:b.wf)(h1:AS a=ZB)(h2:AS b=ZB):(Ff a b).wf:=by rw[dj]at h1 h2;obtain⟨a1,a2,a3,a4⟩:=ha;obtain⟨b1,b2,b3,b4⟩:=hb;unfold Ff;refine⟨?_,?_,?_,?_⟩<;>simp only<;>split<;>omega
def apx{a b:Rg}(ha:a.wf)(hb:b.wf)(h1:AS a=ZB)(h2:AS b=ZB):(Fe a b).wf:=by rw[dj]at h1 h2;obtain⟨a1,a2,a3,a4⟩:=ha;obtain⟨b1,b2,b3,b4⟩:=hb;unfold Fe;refine⟨?_,?_,?_,?_⟩<;>simp only<;>split<;>omega
def amZ(h0:0<=x)(k:Nat):0<=x / 2 ^ k/\x / 2 ^ k<=x:=by have hp:(0:Int)<2 ^ k:=Int.pow_pos Fn;refine⟨Int.ediv_nonneg h0 Fn,Int.ediv_le_self _ h0⟩
def Ud(h0:0<=x)(hy:x<=y){k:Nat}(h:aA y.toNat+k<=64):0<=x*2 ^ k/\x*2 ^ k<=y*2 ^ k/\y*2 ^ k<=18446744073709551615:=by
 have hp:(0:Int)<2 ^ k:=Int.pow_pos Fn;refine⟨Int.mul_nonneg h0 Fn,Int.mul_le_mul_of_nonneg_right hy Fn,?_⟩;have h1:=rD y.toNat;have h2:(y.toNat+1)*2 ^ k<=2 ^ aA y.toNat*2 ^ k:=Nat.mul_le_mul_right _ Fn;rw[<-Nat.pow_add]at h2;have h3:2 ^ (aA y.toNat+k)<=2 ^ 64:=YY Fn h;have h4:0<2 ^ k:=Nat.pow_pos Fn;have e:y*2 ^ k=((y.toNat*2 ^ k:Nat):Int):=by have:((y.toNat:Nat):Int)=y:=Fn;rw[Int.natCast_mul,this];simp
 rw[e];rw[Nat.add_mul]at h2;omega
def acR(h0:0<=x)(hz:0<z)(h:z<=y):x / y<=x / z:=by have hy:0<y:=Fn;refine Int.le_ediv_of_mul_le hz ?_;have h1:x / y*z<=x / y*y:=Int.mul_le_mul_of_nonneg_left h (Int.ediv_nonneg h0 Fn);have h2:=Int.ediv_mul_le x (show y≠0 by omega);omega
def UL{x y z:Int}(h0:0<=x)(h1:x<=18446744073709551615)(hy:0<y):0<=x / y/\x / y<=18446744073709551615:=by have:=Int.ediv_le_self y h0;exact⟨Int.ediv_nonneg h0 Fn,by omega⟩
def aeL{a b:Rg}(ha:a.wf)(hb:b.wf)(h1:AS a=ZB)(h2:AS b=ZB):(CS op a b).wf:=by
 have m1:=(dj a).1 h1;have m2:=(dj b).1 h2;have CN:=ha;have D8:=hb;obtain⟨a1,a2,a3,a4⟩:=CN;obtain⟨b1,b2,b3,b4⟩:=D8;have f:=vA (v:=max a.uh b.uh) Fn;unfold CS;by_cases o11:op=11
 .rw[ae o11];exact hb
 rw[aa o11];by_cases o0:op=0
 .rw[ae o0];exact apw ha hb h1 h2
 rw[aa o0];by_cases o1:op=1
 .rw[ae o1];exact apx ha hb h1 h2
 rw[aa o1];by_cases o5:op=5
 .rw[ae o5];exact pP Fn Fn Fn Fn
 rw[aa o5];by_cases o4:op=4
 .rw[ae o4];exact pP Fn Fn f.1 f.2
 rw[aa o4];by_cases o10:op=10
 .rw[ae o10];exact pP Fn Fn f.1 f.2
 rw[aa o10];by_cases o3:op=3
 .rw[ae o3];split
  .have e1:=UL (z:=0) a1.1 a1.2 (show 0<b.uh by omega);have e2:=UL (z:=0) a2.1 a2.2 (show 0<b.ul by omega);exact pP e1.1 e1.2 e2.1 e2.2
  .exact pP Fn Fn Fn Fn
 rw[aa o3];by_cases o9:op=9
 .rw[ae o9];split
  .exact pP Fn Fn Fn Fn
  .exact pP Fn Fn Fn Fn
 rw[aa o9];by_cases o7:op=7
 .rw[ae o7];split
  .have e1:=amZ a1.1 (GS b);have e2:=amZ a2.1 (GS b);exact pP e1.1 Fn e2.1 Fn
  .exact fz
 rw[aa o7];by_cases o6:op=6
 .rw[ae o6];split
  next h=>have e1:=Ud a1.1 m1.1 h.2;exact pP e1.1 Fn Fn Fn
  .exact fz
 rw[aa o6];exact fz
def Rs{a b:Rg}(ha:a.wf)(hb:b.wf):(DT op a b).wf:=by
 unfold DT;split
 next h=>exact tU (aeL ha hb h.1 h.2)
 .exact fz
def avj(op a b:Int):BI op 64 a b=B4 op 64 a b (b % 64):=by unfold BI;rw[dK,dK,dK]
def Uv{a b:Rg}(ha:a.wf)(hb:b.wf)(v0:0<=v)(v1:v<=18446744073709551615)(w0:0<=w)(w1:w<=18446744073709551615)(h1:AI a v=ZB)(h2:AI b w=ZB)(FT:0<=BI op 64 v w)(ES:BI op 64 v w<=18446744073709551615):AI (DT op a b) (BI op 64 v w)=ZB:=by
 have m1:=cU h1;have m2:=cU h2;have x1:=(aR a v).1 h1;have x2:=(aR b w).1 h2;unfold DT;rw[ae ⟨m1,m2⟩];refine aiG (aeL ha hb m1 m2) FT ES ?_;rw[avj]at FT ES ⊢;have I8:v.toNat<2 ^ aA (max a.uh b.uh).toNat/\w.toNat<2 ^ aA (max a.uh b.uh).toNat:=by have:=rD (max a.uh b.uh).toNat;omega
 unfold CS;unfold B4 at FT ES ⊢;by_cases o11:op=11
 .subst o11;simpa using h2
 rw[aa o11];by_cases o0:op=0
 .subst o0;simpa using arG ha hb v0 v1 w0 w1 h1 h2
 rw[aa o0];by_cases o1:op=1
 .subst o1;simpa using arH ha hb v0 v1 w0 w1 h1 h2
 rw[aa o1];by_cases o5:op=5
 .subst o5;have e1:v.toNat &&& w.toNat<=v.toNat:=Nat.and_le_left;have e2:v.toNat &&& w.toNat<=w.toNat:=Nat.and_le_right;simp at FT ES ⊢;exact jZ Fn Fn
 rw[aa o5];by_cases o4:op=4
 .subst o4;have e1:v.toNat<=v.toNat ||| w.toNat:=Nat.left_le_or;have e2:w.toNat<=v.toNat ||| w.toNat:=Nat.right_le_or;have e3:=Nat.or_lt_two_pow I8.1 I8.2;simp at FT ES ⊢;exact jZ Fn (ac2 Fn (by simpa using e3))
 rw[aa o4];by_cases o10:op=10
 .subst o10;have e3:=Nat.xor_lt_two_pow I8.1 I8.2;simp at FT ES ⊢;exact jZ Fn (ac2 Fn (by simpa using e3))
 rw[aa o10];by_cases o3:op=3
 .subst o3;simp at FT ES ⊢;by_cases JO:0<b.ul
  .rw[ae JO,aa Fn];refine jZ ?_ ?_
   .exact Int.le_trans (Int.ediv_le_ediv Fn x1.1) (by
     have:=ha.1;exact acR Fn Fn x2.2.1)
   .exact Int.le_trans (Int.ediv_le_ediv Fn x1.2.1) (acR (by have:=ha.2.1;omega) JO x2.1)
  .rw[aa JO];refine jZ Fn ?_;split
   .exact Fn
   .have:=Int.ediv_le_self w v0;omega
 rw[aa o3];by_cases o9:op=9
 .subst o9;simp at FT ES ⊢;by_cases JO:0<b.ul
  .rw[ae JO,aa Fn];have e1:=Int.emod_lt_of_pos v (show 0<w by omega);have e2:=Int.emod_nonneg v (show w≠0 by omega);have e3:v % w<=v:=by
    have:=Int.emod_add_mul_ediv v w;have h4:0<=w*(v / w):=Int.mul_nonneg w0 (Int.ediv_nonneg v0 w0);omega
   exact jZ e2 Fn
  .rw[aa JO];split
   .exact jZ v0 Fn
   .have e2:=Int.emod_nonneg v (show w≠0 by omega);have e3:v % w<=v:=by
     have:=Int.emod_add_mul_ediv v w;have h4:0<=w*(v / w):=Int.mul_nonneg w0 (Int.ediv_nonneg v0 w0);omega
    exact jZ e2 Fn
 rw[aa o9];have hsh:eH b=ZB->(w % 64).toNat=GS b:=by intro h;have:=rC h w0 w1;rw[h2]at this;have:=Ae this.symm;unfold GS;rw[this]
 by_cases o7:op=7
 .subst o7;simp at FT ES ⊢;by_cases hs:eH b=ZB
  .rw[ae hs,hsh hs];have hp:(0:Int)<2 ^ GS b:=Int.pow_pos Fn;exact jZ (Int.ediv_le_ediv hp x1.1) (Int.ediv_le_ediv hp x1.2.1)
  .rw[aa hs];exact kE _ FT ES
 rw[aa o7];by_cases o6:op=6
 .subst o6;simp at FT ES ⊢;by_cases hs:eH b=ZB/\aA a.uh.toNat+GS b<=64
  .rw[ae hs,hsh hs.1];have hp:(0:Int)<2 ^ GS b:=Int.pow_pos Fn;have e1:=Ud v0 x1.2.1 hs.2;rw[Int.emod_eq_of_lt e1.1 Fn];exact jZ (Int.mul_le_mul_of_nonneg_right x1.1 Fn) e1.2.1
  .rw[aa hs];exact kE _ FT ES
 rw[aa o6];exact kE _ FT ES
def aiK{a b:Rg}(h1:AI a v=ZB)(h2:AS b=ZB):AI (jx a b) v=ZB:=by unfold jx;rw[ae ⟨cU h1,h2⟩];rw[aR]at h1 ⊢;unfold nn;simp only;omega
def aiJ{a b:Rg}(h1:AS a=ZB)(h2:AI b v=ZB):AI (jx a b) v=ZB:=by unfold jx;rw[ae ⟨h1,cU h2⟩];rw[aR]at h2 ⊢;unfold nn;simp only;omega
def asc{a b:Rg}:ME a b=ZB↔(AS a=ZB/\AS b=ZB)/\b.ul<=a.ul/\a.uh<=b.uh/\b.sl<=a.sl/\a.sh<=b.sh:=by
 unfold ME;rw[ne,ne,ax];constructor
 .rintro ⟨h1,h2,h3⟩;refine⟨⟨h1,h2⟩,?_⟩;unfold jx at h3;rw[ae ⟨h1,h2⟩]at h3;obtain⟨b1,b2,b3,b4⟩:=b;simp only[nn,Rg.mk.injEq]at h3 ⊢;omega
 .rintro ⟨⟨h1,h2⟩,h3⟩;refine⟨h1,h2,?_⟩;unfold jx;rw[ae ⟨h1,h2⟩];obtain⟨b1,b2,b3,b4⟩:=b;simp only[nn,Rg.mk.injEq]at h3 ⊢;omega
def Rg.Sub(a b:Rg):Prop:=b.ul<=a.ul/\a.uh<=b.uh/\b.sl<=a.sl/\a.sh<=b.sh
def Rg.Sub.refl(a:Rg):a.Sub a:=⟨Int.le_refl _,Int.le_refl _,Int.le_refl _,Int.le_refl _⟩
def Rg.Sub.trans{a b c:Rg}(h:a.Sub b)(g:b.Sub c):a.Sub c:=by obtain⟨h1,h2,h3,h4⟩:=h;obtain⟨g1,g2,g3,g4⟩:=g;exact⟨by omega,by omega,by omega,by omega⟩
def aa3(r:Rg):(Bb r).Sub r:=by
 unfold Bb;split
 .unfold Rg.Sub;simp only;omega
 .exact Rg.Sub.refl r
def aky(r:Rg):(CT r).Sub r:=by
 unfold CT;split
 .unfold Rg.Sub;simp only;omega
 .exact Rg.Sub.refl r
def akz{r:Rg}(h:Ba r=ZB):(AF r).Sub r:=by unfold AF;rw[ae h];exact(aa3 _).trans ((aky _).trans (aa3 _))
def auZ{a b:Rg}(h1:AS a=ZB)(h2:AS b=ZB)(h:a.Sub b):ME a b=ZB:=asc.2 ⟨⟨h1,h2⟩,h⟩
def tR{a b:Rg}(ha:a.wf)(hb:b.wf):(lg a b).wf:=by obtain⟨a1,a2,a3,a4⟩:=ha;obtain⟨b1,b2,b3,b4⟩:=hb;unfold lg;refine⟨?_,?_,?_,?_⟩<;>simp only<;>omega
def aiH{a b:Rg}:AI (lg a b) v=(AI a v&&AI b v):=by rw[ar,ne,aR,aR,aR];unfold lg;simp only;omega
def acC{a b:Rg}(ha:a.wf)(hb:b.wf)(v0:0<=v)(v1:v<=18446744073709551615)(h:AI b v=ZB):AI a v=(fx a b&&AI (jw a b) v):=by
 have e:=aiH (a:=a) (b:=b) (v:=v);rw[h,Bool.and_true]at e;cases hm:fx a b
 .rw[Bool.false_and];cases hv:AI a v
  .rfl
  .exfalso;rw[hv]at e;have:=vz (tR ha hb) v0 v1 e;simp[fx,cU hv,cU h,this]at hm
 .rw[Bool.true_and];unfold jw;rw[ae hm];unfold fx at hm;simp only[ne]at hm;rw[rF (tR ha hb) v0 v1 hm.2.2,e]
def akx{a b:Rg}(h:fx a b=ZB):(jw a b).Sub a/\AS (jw a b)=ZB:=by have h':=h;unfold fx at h';simp only[ne]at h';unfold jw;rw[ae h];refine⟨(akz h'.2.2).trans ?_,ajx h'.2.2⟩;unfold Rg.Sub lg;simp only;omega
def CZ(r:Rg):Rg:=if AS r=ZB/\r.uh<=4294967295 then r else AF (bu 0 4294967295)
def aiI{r:Rg}(v0:0<=v)(h:AI r v=ZB):AI (CZ r) (v % 4294967296)=ZB:=by
 unfold CZ;split
 next hh=>have:=(aR r v).1 h;rw[show v % 4294967296=v by omega];exact h
 .exact aiG (pP Fn Fn Fn Fn) Fn Fn (jZ Fn Fn)
def Mx(cc v w:Int):Bool:=
 if cc=0 then decide (v=w)else if cc=1 then !decide (v=w)else if cc=2 then decide (w<v)else if cc=3 then decide (w<=v)else if cc=4 then decide (v<w)else if cc=5 then decide (v<=w)
 else if cc=6 then decide (BY w<BY v)else if cc=7 then decide (BY w<=BY v)else if cc=8 then decide (BY v<BY w)else if cc=9 then decide (BY v<=BY w)else ZB
def Bu(cc:Int)(a b:Rg):Bool:=
 if cc=1 then(if eH b=ZB then !decide (a.ul=b.ul/\a.uh=b.ul) &&!decide (a.sl=BY b.ul/\a.sh=BY b.ul)else ZB)
 else if cc=2 then !decide (b.ul=18446744073709551615)else if cc=4 then !decide (b.uh=0)else if cc=6 then !decide (b.sl=9223372036854775807)else if cc=8 then !decide (b.sh = -9223372036854775808)else ZB
def BQ(cc:Int)(a b:Rg):Rg:=
 if cc=1 then(if eH b=ZB then⟨if a.ul=b.ul then a.ul+1 else a.ul,if a.ul≠b.ul/\a.uh=b.ul then a.uh-1 else a.uh,if a.sl=BY b.ul then a.sl+1 else a.sl,if a.sl≠BY b.ul/\a.sh=BY b.ul then a.sh-1 else a.sh⟩else a)
 else if cc=2 then⟨max a.ul (b.ul+1),a.uh,a.sl,a.sh⟩else if cc=3 then⟨max a.ul b.ul,a.uh,a.sl,a.sh⟩
 else if cc=4 then⟨a.ul,min a.uh (b.uh-1),a.sl,a.sh⟩else if cc=5 then⟨a.ul,min a.uh b.uh,a.sl,a.sh⟩
 else if cc=6 then⟨a.ul,a.uh,max a.sl (b.sl+1),a.sh⟩else if cc=7 then⟨a.ul,a.uh,max a.sl b.sl,a.sh⟩
 else if cc=8 then⟨a.ul,a.uh,a.sl,min a.sh (b.sh-1)⟩else if cc=9 then⟨a.ul,a.uh,a.sl,min a.sh b.sh⟩else a
def jy(cc:Int)(a b:Rg):Bool:=AS a&&(AS b&&(decide (0<=cc)&&decide (cc<=10)))
def Cz(cc:Int)(a b:Rg):Bool:=jy cc a b&&(if cc=0 then fx a b else Bu cc a b&&Ba (BQ cc a b))
def CY(cc:Int)(a b:Rg):Rg:=if Cz cc a b=ZB then(if cc=0 then jw a b else AF (BQ cc a b))else ball
def aqk(v0:0<=v)(v1:v<=18446744073709551615)(w0:0<=w)(w1:w<=18446744073709551615)(h:BY v=BY w):v=w:=by rw[jf v0 v1,jf w0 w1]at h;split at h<;>split at h<;>omega
def aqq{a b:Rg}(v0:0<=v)(v1:v<=18446744073709551615)(w0:0<=w)(w1:w<=18446744073709551615)(hb:b.wf)(h1:AI a v=ZB)(h2:AI b w=ZB)(hy:Mx cc v w=ZB)(c0:cc≠0):Bu cc a b=ZB/\AI (BQ cc a b) v=ZB:=by
 have x1:=(aR a v).1 h1;have x2:=(aR b w).1 h2;have sv:=gf v;have sw:=gf w;obtain⟨b1,b2,b3,b4⟩:=hb;rw[aR];unfold Mx at hy;unfold Bu BQ;rw[aa c0]at hy;by_cases c1:cc=1
 .rw[ae c1]at hy ⊢;rw[ae c1];by_cases hs:eH b=ZB
  .rw[ae hs,ae hs];have e:=rC hs w0 w1;rw[h2]at e;have e:=Ae e.symm;have Bg:v≠b.ul:=by rw[<-e];simpa using hy
   have hns:BY v≠BY b.ul:=fun h=>Bg (aqk v0 v1 Fn Fn h);generalize BY b.ul=t at *;generalize BY v=s at *;refine⟨?_,?_⟩
   .simp only[ne,ZL,mf];omega
   .simp only;refine⟨?_,?_,?_,?_⟩<;>split<;>omega
  .rw[aa hs,aa hs];exact⟨rfl,x1⟩
 rw[aa c1]at hy ⊢;rw[aa c1];generalize BY v=s at *;generalize BY w=t at *;by_cases c2:cc=2
 .rw[ae c2]at hy ⊢;rw[ae c2];have hy:=Ae hy;exact⟨by simp only[ZL,mf];omega,by simp only;omega⟩
 rw[aa c2]at hy ⊢;rw[aa c2];by_cases c3:cc=3
 .subst c3;have hy:w<=v:=Yu;simp;omega
 rw[aa c3]at hy;rw[aa c3];by_cases c4:cc=4
 .rw[ae c4]at hy ⊢;rw[ae c4];have hy:=Ae hy;exact⟨by simp only[ZL,mf];omega,by simp only;omega⟩
 rw[aa c4]at hy ⊢;rw[aa c4];by_cases c5:cc=5
 .subst c5;have hy:v<=w:=Yu;simp;omega
 rw[aa c5]at hy;rw[aa c5];by_cases c6:cc=6
 .rw[ae c6]at hy ⊢;rw[ae c6];have hy:=Ae hy;exact⟨by simp only[ZL,mf];omega,by simp only;omega⟩
 rw[aa c6]at hy ⊢;rw[aa c6];by_cases c7:cc=7
 .subst c7;have hy:t<=s:=Yu;simp;omega
 rw[aa c7]at hy;rw[aa c7];by_cases c8:cc=8
 .rw[ae c8]at hy ⊢;rw[ae c8];have hy:=Ae hy;exact⟨by simp only[ZL,mf];omega,by simp only;omega⟩
 rw[aa c8]at hy ⊢;rw[aa c8];by_cases c9:cc=9
 .subst c9;have hy:s<=t:=Yu;simp;omega
 rw[aa c9];exact⟨rfl,x1⟩
open Go.ChangeShapes Go.WideShapes
structure Pu where
 lo:Int
 hi:Int
structure Pi where
 lo:Int
 hi:Int
def Rg.eta(a:Rg):(⟨a.ul,a.uh,a.sl,a.sh⟩:Rg)=a:=rfl
def rd_Rg(k:Rg->List Dt->List Dt):List Dt->List Dt
 |.z z0::.z z1::.z z2::.z z3::r=>k ⟨z0,z1,z2,z3⟩ r
 |_=>[]
def Rg.ok(a:Rg):Prop:=Aj .u64 a.ul=ZB/\Aj .u64 a.uh=ZB/\Aj .i64 a.sl=ZB/\Aj .i64 a.sh=ZB
def kRg:List CK:=[.int .u64,.int .u64,.int .i64,.int .i64]
def v_Rg(t:List VK):List VK:=.int .u64::.int .u64::.int .i64::.int .i64::t
def d_Rg(a:Rg)(t:List Dt):List Dt:=.z a.ul::.z a.uh::.z a.sl::.z a.sh::t
def dG{p:List Dt->Prop}(h:∀a:Rg,Rg.ok a->ba l fun r=>p (d_Rg a r)):ba (v_Rg l) p:=fun x0 Dr x1 DY x2 HT x3 Hc=>h ⟨x0,x1,x2,x3⟩ ⟨Dr,DY,HT,Hc⟩
def AP:=aI @v_Rg.eq_1 (aI @d_Rg.eq_1 (aI @rd_Rg.eq_1 (@kRg.eq_1)))
def Pu.eta(a:Pu):(⟨a.lo,a.hi⟩:Pu)=a:=rfl
def rd_Pu(k:Pu->List Dt->List Dt):List Dt->List Dt
 |.z z0::.z z1::r=>k ⟨z0,z1⟩ r
 |_=>[]
def Pu.ok(a:Pu):Prop:=Aj .u64 a.lo=ZB/\Aj .u64 a.hi=ZB
def kPu:List CK:=[.int .u64,.int .u64]
def v_Pu(t:List VK):List VK:=.int .u64::.int .u64::t
def d_Pu(a:Pu)(t:List Dt):List Dt:=.z a.lo::.z a.hi::t
def ji{p:List Dt->Prop}(h:∀a:Pu,Pu.ok a->ba l fun r=>p (d_Pu a r)):ba (v_Pu l) p:=fun x0 Dr x1 DY=>h ⟨x0,x1⟩ ⟨Dr,DY⟩
def BO:=aI @v_Pu.eq_1 (aI @d_Pu.eq_1 (aI @rd_Pu.eq_1 (@kPu.eq_1)))
def Pi.eta(a:Pi):(⟨a.lo,a.hi⟩:Pi)=a:=rfl
def rd_Pi(k:Pi->List Dt->List Dt):List Dt->List Dt
 |.z z0::.z z1::r=>k ⟨z0,z1⟩ r
 |_=>[]
def Pi.ok(a:Pi):Prop:=Aj .i64 a.lo=ZB/\Aj .i64 a.hi=ZB
def kPi:List CK:=[.int .i64,.int .i64]
def v_Pi(t:List VK):List VK:=.int .i64::.int .i64::t
def d_Pi(a:Pi)(t:List Dt):List Dt:=.z a.lo::.z a.hi::t
def jk{p:List Dt->Prop}(h:∀a:Pi,Pi.ok a->ba l fun r=>p (d_Pi a r)):ba (v_Pi l) p:=fun x0 Dr x1 DY=>h ⟨x0,x1⟩ ⟨Dr,DY⟩
def BN:=aI @v_Pi.eq_1 (aI @d_Pi.eq_1 (aI @rd_Pi.eq_1 (@kPi.eq_1)))
def bW:=aI Pi.eta (aI Pu.eta (Rg.eta))
def dn{q:Prop}(k:q2)(h:p->q=q2:=by intro e;(try simp only[e,bW,-eq_self]);rfl):p->q:=fun e=>(h e).symm▸k
def apC:List (Nat×TI):=[(2,DA),
 (43,hJ),
 (57,lm),
 (181,T7),
 (183,T6)]
def bJ:∀t i,(t,i)∈apC->TIok ZF t i:=bK Ch Ch (by kernel_rfl)
def c_uns:Cd:=⟨107,[.agg kRg],[.agg kPu],rd_Rg fun a _=>d_Pu ((⟨a.ul,a.uh⟩:Pu)) [],T0⟩
def am6:Tr:=
(.u (.vs 0 2 .nil))
def OB:c_uns.Ok ZF:=
 A4 am6 (v_Rg []) bJ AR func107<|dG fun a ha hp ρ g=>by
 simp only[AP,BO,AT,ZE]at g;simp only[am6,c_uns,AP,BO,Am,YI,ZE,-eq_self,Rg.eta,g]
 .rfl
def c_sig:Cd:=⟨108,[.agg kRg],[.agg kPi],rd_Rg fun a _=>d_Pi ((⟨a.sl,a.sh⟩:Pi)) [],T0⟩
def am8:Tr:=
(.u (.vs 2 2 .nil))
def OC:c_sig.Ok ZF:=
 A4 am8 (v_Rg []) bJ AR func108<|dG fun a ha hp ρ g=>by
 simp only[AP,BN,AT,ZE]at g;simp only[am8,c_sig,AP,BN,Am,YI,ZE,-eq_self,Rg.eta,g]
 .rfl
def c_umay:Cd:=⟨149,[.agg kPu],[.one .bool],rd_Pu fun a _=>[.z (Ay (decide (a.lo<=a.hi)))],T0⟩
def agB:Tr:=
(.u (.j (.not (.lt (.w 1) (.w 0))) .nil))
def at4:c_umay.Ok ZF:=
 A4 agB (v_Pu []) bJ AR func149<|ji fun a ha hp ρ g=>by
 simp only[BO,AT,ZE]at g;simp only[agB,c_umay,BO,Am,YI,ZE,-eq_self,Pu.eta,g]
 .simp[dq]
def c_imay:Cd:=⟨150,[.agg kPi],[.one .bool],rd_Pi fun a _=>[.z (Ay (decide (a.lo<=a.hi)))],T0⟩
def ag3:Tr:=
(.u (.j (.not (.lt (.w 1) (.w 0))) .nil))
def auj:c_imay.Ok ZF:=
 A4 ag3 (v_Pi []) bJ AR func150<|jk fun a ha hp ρ g=>by
 simp only[BN,AT,ZE]at g;simp only[ag3,c_imay,BN,Am,YI,ZE,-eq_self,Pi.eta,g]
 .simp[dq]
def c_uhas:Cd:=⟨175,[.agg kPu,.one (.int .u64)],[.one .bool],rd_Pu fun a=>rdZ fun v _=>[.z (Ay ((decide (a.lo<=v)&&decide (v<=a.hi))))],T0⟩
def agC:Tr:=
(.br (.lt (.w 2) (.w 0))
 zlF
(.u (.j (.not (.lt (.w 1) (.w 2))) .nil)))
def at5:c_uhas.Ok ZF:=
 A4 agC (v_Pu [.int .u64]) bJ AR func175<|ji fun a ha=>fun v hv hp ρ g=>by
 simp only[BO,AT,ZE]at g;simp only[agC,c_uhas,BO,Am,YI,ZE,-eq_self,Pu.eta,g];apply aI<;>intro c0
 .simp_all [dq]
 .simp_all [dq]
def c_ihas:Cd:=⟨176,[.agg kPi,.one (.int .i64)],[.one .bool],rd_Pi fun a=>rdZ fun v _=>[.z (Ay ((decide (a.lo<=v)&&decide (v<=a.hi))))],T0⟩
def ag4:Tr:=
(.br (.lt (.w 2) (.w 0))
 zlF
(.u (.j (.not (.lt (.w 1) (.w 2))) .nil)))
def auk:c_ihas.Ok ZF:=
 A4 ag4 (v_Pi [.int .i64]) bJ AR func176<|jk fun a ha=>fun v hv hp ρ g=>by
 simp only[BN,AT,ZE]at g;simp only[ag4,c_ihas,BN,Am,YI,ZE,-eq_self,Pi.eta,g];apply aI<;>intro c0
 .simp_all [dq]
 .simp_all [dq]
def c_umeet:Cd:=⟨151,[.agg kPu,.agg kPu],[.agg kPu],rd_Pu fun a=>rd_Pu fun b _=>d_Pu ((⟨max a.lo b.lo,min a.hi b.hi⟩:Pu)) [],T0⟩
def abr:Tr:=
(.u (.cons (.mx (.w 0) (.w 2)) (.cons (.mn (.w 1) (.w 3)) .nil)))
def aio:c_umeet.Ok ZF:=
 A4 abr (v_Pu (v_Pu [])) bJ AR func151<|ji fun a ha=>ji fun b hb hp ρ g=>by
 simp only[BO,AT,ZE]at g;simp only[abr,c_umeet,BO,Am,YI,ZE,-eq_self,Pu.eta,g]
 .rfl
def c_ujoin:Cd:=⟨120,[.agg kPu,.agg kPu],[.agg kPu],rd_Pu fun a=>rd_Pu fun b _=>d_Pu ((⟨min a.lo b.lo,max a.hi b.hi⟩:Pu)) [],T0⟩
def abt:Tr:=
(.u (.cons (.mn (.w 0) (.w 2)) (.cons (.mx (.w 1) (.w 3)) .nil)))
def arg:c_ujoin.Ok ZF:=
 A4 abt (v_Pu (v_Pu [])) bJ AR func120<|ji fun a ha=>ji fun b hb hp ρ g=>by
 simp only[BO,AT,ZE]at g;simp only[abt,c_ujoin,BO,Am,YI,ZE,-eq_self,Pu.eta,g]
 .rfl
def c_imeet:Cd:=⟨152,[.agg kPi,.agg kPi],[.agg kPi],rd_Pi fun a=>rd_Pi fun b _=>d_Pi ((⟨max a.lo b.lo,min a.hi b.hi⟩:Pi)) [],T0⟩
def abG:Tr:=
(.u (.cons (.mx (.w 0) (.w 2)) (.cons (.mn (.w 1) (.w 3)) .nil)))
def aiw:c_imeet.Ok ZF:=
 A4 abG (v_Pi (v_Pi [])) bJ AR func152<|jk fun a ha=>jk fun b hb hp ρ g=>by
 simp only[BN,AT,ZE]at g;simp only[abG,c_imeet,BN,Am,YI,ZE,-eq_self,Pi.eta,g]
 .rfl
def c_ijoin:Cd:=⟨121,[.agg kPi,.agg kPi],[.agg kPi],rd_Pi fun a=>rd_Pi fun b _=>d_Pi ((⟨min a.lo b.lo,max a.hi b.hi⟩:Pi)) [],T0⟩
def abH:Tr:=
(.u (.cons (.mn (.w 0) (.w 2)) (.cons (.mx (.w 1) (.w 3)) .nil)))
def art:c_ijoin.Ok ZF:=
 A4 abH (v_Pi (v_Pi [])) bJ AR func121<|jk fun a ha=>jk fun b hb hp ρ g=>by
 simp only[BN,AT,ZE]at g;simp only[abH,c_ijoin,BN,Am,YI,ZE,-eq_self,Pi.eta,g]
 .rfl
def c_of:Cd:=⟨95,[.agg kPu,.agg kPi],[.agg kRg],rd_Pu fun a=>rd_Pi fun b _=>d_Rg ((⟨a.lo,a.hi,b.lo,b.hi⟩:Rg)) [],T0⟩
def as0:Tr:=
(.u (.vs 0 4 .nil))
def Jc:c_of.Ok ZF:=
 A4 as0 (v_Pu (v_Pi [])) bJ AR func95<|ji fun a ha=>jk fun b hb hp ρ g=>by
 simp only[BO,BN,AP,AT,ZE]at g;simp only[as0,c_of,BO,BN,AP,Am,YI,ZE,-eq_self,Pi.eta,Pu.eta,g]
 .rfl
def c_may:Cd:=⟨105,[.agg kRg],[.one .bool],rd_Rg fun a _=>[.z (Ay (AS a))],T0⟩
def ana:Tr:=
(.call 0 (kPu) (.vs 0 4 .nil) 4
(.call 2 [.bool] (.vs 4 2 .nil) 6
(.br (.s 6)
(.call 1 (kPi) (.vs 0 4 .nil) 7
(.call 3 [.bool] (.vs 7 2 .nil) 9
(.u (.j (.s 9) .nil))))
 zlF)))
def xM:c_may.Ok ZF:=
 A4 ana (v_Rg []) bJ (Aq OB<|Aq OC<|Aq at4<|Aq auj AR) func105<|dG fun a ha hp ρ g=>by
 simp only[AP,BO,BN,AT,ZE]at g;simp only[ana,c_uns,c_sig,c_umay,c_imay,c_may,AP,BO,BN,Am,YI,ZE,-eq_self,bW,g];refine dn ?_;refine dn ?_;apply aI<;>intro c0;refine dn ?_;refine dn ?_
 ·(unfold AS;simp_all;try (intros;omega))
 ·(unfold AS;simp_all;try (intros;omega))
def c_all:Cd:=⟨81,[],[.agg kRg],fun _=>d_Rg ball [],T0⟩
def ank:Tr:=
(.call 0 (kRg) (.zs [0,18446744073709551615,-9223372036854775808,9223372036854775807] .nil) 0
(.u (.vs 0 4 .nil)))
def oh:c_all.Ok ZF:=
 A4 ank [] bJ (Aq Jc AR) func81<|fun hp ρ g=>by
 simp only[ank,c_of,c_all,AP,BO,BN,Am,YI,ZE,-eq_self,bW];refine dn ?_
 .rfl
def c_one:Cd:=⟨60,[.one (.int .u64)],[.agg kRg],rdZ fun v _=>d_Rg (G5 v) [],T0⟩
def am9:Tr:=
(.call 0 (kRg) (.cons (.w 0) (.cons (.w 0) (.cons (.F .i64 (.w 0)) (.cons (.F .i64 (.w 0)) .nil)))) 1
(.u (.vs 1 4 .nil)))
def avQ:c_one.Ok ZF:=
 A4 am9 [.int .u64] bJ (Aq Jc AR) func60<|fun v hv hp ρ g=>by
 simp only[AP,BO,BN,AT,ZE]at g;simp only[am9,c_of,c_one,AP,BO,BN,Am,YI,ZE,-eq_self,bW,g];refine dn ?_
 .simp[G5,dd]
def c_has:Cd:=⟨153,[.agg kRg,.one (.int .u64)],[.one .bool],rd_Rg fun a=>rdZ fun v _=>[.z (Ay (AI a v))],T0⟩
def anj:Tr:=
(.call 0 [.bool] (.vs 0 4 .nil) 5
(.br (.s 5)
(.call 1 (kPu) (.vs 0 4 .nil) 6
(.call 3 [.bool] (.vs 6 2 (.cons (.w 4) .nil)) 8
(.br (.s 8)
(.call 2 (kPi) (.vs 0 4 .nil) 9
(.call 4 [.bool] (.vs 9 2 (.cons (.F .i64 (.w 4)) .nil)) 11
(.u (.j (.s 11) .nil))))
 zlF)))
 zlF))
def avX:c_has.Ok ZF:=
 A4 anj (v_Rg [.int .u64]) bJ (Aq xM<|Aq OB<|Aq OC<|Aq at5<|Aq auk AR) func153<|dG fun a ha=>fun v hv hp ρ g=>by
 simp only[AP,BO,BN,AT,ZE]at g;simp only[anj,c_may,c_uns,c_sig,c_uhas,c_ihas,c_has,AP,BO,BN,Am,YI,ZE,-eq_self,bW,g];refine dn ?_
 .repeat' first|apply aI<;>intro c|refine dn ?_|exact X0
def c_single:Cd:=⟨110,[.agg kRg],[.one (.int .u64),.one .bool],rd_Rg fun a _=>[.z (aE a),.z (Ay (eH a))],T0⟩
def wQ:Tr:=
(.br (.eq (.w 0) (.w 1))
(.call 0 [.bool] (.vs 0 4 (.cons (.w 0) .nil)) 4
(.br (.s 4)
(.u (.cons (.w 0) (.j (.tt ZB) .nil)))
(.u (.cons (.p 0) (.j (.tt ZC) .nil)))))
(.u (.cons (.p 0) (.j (.tt ZC) .nil))))
def vf:c_single.Ok ZF:=
 A4 wQ (v_Rg []) bJ (Aq avX AR) func110<|dG fun a ha hp ρ g=>by
 simp only[AP,AT,ZE]at g;simp only[wQ,c_has,c_single,AP,Am,YI,ZE,-eq_self,bW,g];apply aI<;>intro c0;refine dn ?_;apply aI<;>intro c1
 ·(unfold aE eH;simp_all)
 ·(unfold aE eH;simp_all)
 ·(unfold aE eH;simp_all)
def c_join:Cd:=⟨78,[.agg kRg,.agg kRg],[.agg kRg],rd_Rg fun a=>rd_Rg fun b _=>d_Rg (jx a b) [],T0⟩
def agZ:Tr:=
(.call 0 [.bool] (.vs 0 4 .nil) 8
(.br (.s 8)
(.call 0 [.bool] (.vs 4 4 .nil) 9
(.br (.s 9)
(.call 2 (kPu) (.vs 0 4 .nil) 10
(.call 2 (kPu) (.vs 4 4 .nil) 12
(.call 4 (kPu) (.vs 10 4 .nil) 14
(.call 3 (kPi) (.vs 0 4 .nil) 16
(.call 3 (kPi) (.vs 4 4 .nil) 18
(.call 5 (kPi) (.vs 16 4 .nil) 20
(.call 6 (kRg) (.vs 14 2 (.vs 20 2 .nil)) 22
(.u (.vs 22 4 .nil)))))))))
(.call 1 (kRg) .nil 10
(.u (.vs 10 4 .nil)))))
(.call 1 (kRg) .nil 9
(.u (.vs 9 4 .nil)))))
def aug:c_join.Ok ZF:=
 A4 agZ (v_Rg (v_Rg [])) bJ (Aq xM<|Aq oh<|Aq OB<|Aq OC<|Aq arg<|Aq art<|Aq Jc AR) func78<|dG fun a ha=>dG fun b hb hp ρ g=>by
 simp only[AP,BO,BN,AT,ZE]at g;simp only[agZ,c_may,c_all,c_uns,c_sig,c_ujoin,c_ijoin,c_of,c_join,AP,BO,BN,Am,YI,ZE,-eq_self,bW,g];refine dn ?_;apply aI<;>intro c0;refine dn ?_;apply aI<;>intro c1;refine dn ?_;refine dn ?_;refine dn ?_;refine dn ?_;refine dn ?_;refine dn ?_;refine dn ?_
 ·(unfold jx;simp_all [nn])
 refine dn ?_
 ·(unfold jx;simp_all [nn])
 refine dn ?_
 ·(unfold jx;simp_all [nn])
def TQ(r:Rg):(if Ba r=ZB then AF r else ball)=AF r:=by unfold AF;split<;>simp_all
def Rg.ext_iff{a b:Rg}:a=b↔a.ul=b.ul/\a.uh=b.uh/\a.sl=b.sl/\a.sh=b.sh:=by cases a;cases b;simp
def dr(h:Aj .u64 x=ZB):0<=x/\x<=18446744073709551615:=by rw[bl]at h;simpa[IntKind.min,IntKind.max,ZQ,YS]using h
def iX(h:Aj .i64 x=ZB) : -9223372036854775808<=x/\x<=9223372036854775807:=by rw[bl]at h;simpa[IntKind.min,IntKind.max,ZQ,YS]using h
def Rg.wf_of{a:Rg}(h:a.ok):a.wf:=⟨dr h.1,dr h.2.1,iX h.2.2.1,iX h.2.2.2⟩
def asW(h:0<=x/\x<=18446744073709551615):Ac .shr .u64 x 63=if J3 x=ZB then 1 else 0:=by
 show x.fdiv (2 ^ 63)=_;rw[Int.fdiv_eq_ediv_of_nonneg _ Fn];unfold J3;split
 next hh=>have:=Ae hh;omega
 next hh=>have:¬9223372036854775808<=x:=fun e=>hh (cP e);omega
def aur{r:Rg}(w:r.wf):(Ac .shr .u64 r.ul 63==Ac .shr .u64 r.uh 63)=decide (J3 r.ul=J3 r.uh):=by rw[asW w.1,asW w.2.1];cases J3 r.ul<;>cases J3 r.uh<;>rfl
def kO{r:Rg}(w:r.wf)(h:(Ac .shr .u64 r.ul 63==Ac .shr .u64 r.uh 63)=ZB):Bb r=⟨r.ul,r.uh,max r.sl (ZG .i64 r.ul),min r.sh (ZG .i64 r.uh)⟩:=by rw[aur w,ax]at h;unfold Bb;rw[ae h,dd,dd]
def qd{r:Rg}(w:r.wf)(h:(Ac .shr .u64 r.ul 63==Ac .shr .u64 r.uh 63)=ZC):Bb r=⟨r.ul,r.uh,r.sl,r.sh⟩:=by rw[aur w,mf]at h;unfold Bb;rw[aa h]
def vM{r:Rg}(h:(decide (r.sl<0)==decide (r.sh<0))=ZB):CT r=⟨max r.ul (ZG .u64 r.sl),min r.uh (ZG .u64 r.sh),r.sl,r.sh⟩:=by unfold CT;rw[ae (eq_of_beq h)]
def OG{r:Rg}(h:(decide (r.sl<0)==decide (r.sh<0))=ZC):CT r=⟨r.ul,r.uh,r.sl,r.sh⟩:=by unfold CT;rw[aa (fun e=>by rw[e]at h;simp at h)]
def KE:List C:=[.int .u64 (.p 0),.int .u64 (.p 0),.int .i64 (.p 0),.int .i64 (.p 0)]
def auC:Tryz.prog.eqGuardType Tryz.prog.depth 57=ZC:=by kernel_rfl
def aej:Tryz.prog.cellsOf 57=4:=by kernel_rfl
def aen:Tryz.prog.cellsOf 43=1:=by kernel_rfl
def ajn:Tryz.prog.cellsOf 2=1:=by kernel_rfl
def avF(vs:List Value)(hv:aD vs KE):Tryz.prog.keyLits 6 57 vs=ZA (cD vs):=by obtain⟨x0,_,rfl,g0,hv⟩:=ah hv;obtain⟨x1,_,rfl,g1,hv⟩:=ah hv;obtain⟨x2,_,rfl,g2,hv⟩:=ah hv;obtain⟨x3,_,rfl,g3,hv⟩:=ah hv;obtain rfl:=bz hv;simp[Program.keyLits,underlying57,underlying43,underlying2,aej,aen,ajn,xR,cD,g0,g1,g2,g3]
def awx(vs:List Value)(hv:aD vs KE):(Value.agg vs.toArray).formed ZF 57=ZB:=by obtain⟨x0,_,rfl,g0,hv⟩:=ah hv;obtain⟨x1,_,rfl,g1,hv⟩:=ah hv;obtain⟨x2,_,rfl,g2,hv⟩:=ah hv;obtain⟨x3,_,rfl,g3,hv⟩:=ah hv;obtain rfl:=bz hv;kernel_rfl
def awB(vs us:List Value)(hv:aD vs KE)(hu:aD us KE)(w:World):(Op.equal 57 (.agg vs.toArray) (.agg us.toArray)).run ZF w=.ok (CB vs us) w:=fU (by kernel_rfl) awx 6 avF vs us hv hu w
def ao{q:Prop}(k:q2)(h:p->q=q2:=by intro e;(try simp only[e,bW,-eq_self]);rfl):p->q:=fun e=>(h e).symm▸k
def ae9:List (Nat×TI):=[(2,DA),
 (3,C1),
 (4,EM),
 (43,hJ),
 (57,⟨ZB,4,(zN 4 2211),[(0,43),(1,43),(2,2),(3,2)],ZD,ZD,ZB,ZC,ZD,32,ZC,ZD,ZC,0⟩),
 (181,T7),
 (183,T6)]
def ix:∀t i,(t,i)∈ae9->TIok ZF t i:=bK (Ed (z:=KE) ⟨awB,auC⟩ Ch) Ch (by kernel_rfl)
def c_nar:Cd:=⟨117,[.agg kRg],[.agg kRg,.one .bool],rd_Rg fun a _=>d_Rg (AF a) [.z (Ay (Ba a))],T0⟩
def Oe:Tr:=(.call 0 [.bool] (.vs 29 4 .nil) 33
(.br (.s 33)
(.call 2 (kPu) (.vs 29 4 .nil) 34
(.call 3 (kPi) (.vs 29 4 .nil) 36
(.u (.vs 29 4 (.j (.tt ZB) .nil)))))
(.call 1 (kRg) .nil 34
(.u (.vs 34 4 (.j (.tt ZC) .nil))))))
def Od:Tr:=(.call 0 [.bool] (.vs 31 4 .nil) 35
(.br (.s 35)
(.call 2 (kPu) (.vs 31 4 .nil) 36
(.call 3 (kPi) (.vs 31 4 .nil) 38
(.u (.vs 31 4 (.j (.tt ZB) .nil)))))
(.call 1 (kRg) .nil 36
(.u (.vs 36 4 (.j (.tt ZC) .nil))))))
def Oc:Tr:=(.call 0 [.bool] (.vs 20 4 .nil) 24
(.br (.s 24)
(.call 2 (kPu) (.vs 20 4 .nil) 25
(.call 3 (kPi) (.vs 20 4 .nil) 27
(.br (.eq (.f .shr .u64 (.w 25) (.p 63)) (.f .shr .u64 (.w 26) (.p 63)))
(.call 5 (kPi) (.vs 27 2 (.cons (.F .i64 (.w 25)) (.cons (.F .i64 (.w 26)) .nil))) 29
(.call 6 (kRg) (.vs 25 2 (.vs 29 2 .nil)) 31
 Od))
(.call 6 (kRg) (.vs 25 4 .nil) 29
 Oe))))
(.call 1 (kRg) .nil 25
(.u (.vs 25 4 (.j (.tt ZC) .nil))))))
def Ub:Tr:=
(.call 0 [.bool] (.vs 0 4 .nil) 4
(.br (.s 4)
(.call 2 (kPu) (.vs 0 4 .nil) 5
(.call 3 (kPi) (.vs 0 4 .nil) 7
(.br (.eq (.f .shr .u64 (.w 5) (.p 63)) (.f .shr .u64 (.w 6) (.p 63)))
(.call 5 (kPi) (.vs 7 2 (.cons (.F .i64 (.w 5)) (.cons (.F .i64 (.w 6)) .nil))) 9
(.call 6 (kRg) (.vs 5 2 (.vs 9 2 .nil)) 11
(.call 0 [.bool] (.vs 11 4 .nil) 15
(.br (.s 15)
(.call 2 (kPu) (.vs 11 4 .nil) 16
(.call 3 (kPi) (.vs 11 4 .nil) 18
(.br (.beq (.lt (.w 18) (.p 0)) (.lt (.w 19) (.p 0)))
(.call 4 (kPu) (.vs 16 2 (.cons (.F .u64 (.w 18)) (.cons (.F .u64 (.w 19)) .nil))) 20
(.call 6 (kRg) (.vs 20 2 (.vs 18 2 .nil)) 22
(.call 0 [.bool] (.vs 22 4 .nil) 26
(.br (.s 26)
(.call 2 (kPu) (.vs 22 4 .nil) 27
(.call 3 (kPi) (.vs 22 4 .nil) 29
(.br (.eq (.f .shr .u64 (.w 27) (.p 63)) (.f .shr .u64 (.w 28) (.p 63)))
(.call 5 (kPi) (.vs 29 2 (.cons (.F .i64 (.w 27)) (.cons (.F .i64 (.w 28)) .nil))) 31
(.call 6 (kRg) (.vs 27 2 (.vs 31 2 .nil)) 33
(.call 0 [.bool] (.vs 33 4 .nil) 37
(.br (.s 37)
(.call 2 (kPu) (.vs 33 4 .nil) 38
(.call 3 (kPi) (.vs 33 4 .nil) 40
(.u (.vs 33 4 (.j (.tt ZB) .nil)))))
(.call 1 (kRg) .nil 38
(.u (.vs 38 4 (.j (.tt ZC) .nil))))))))
(.call 6 (kRg) (.vs 27 4 .nil) 31
 Od))))
(.call 1 (kRg) .nil 27
(.u (.vs 27 4 (.j (.tt ZC) .nil))))))))
(.call 6 (kRg) (.vs 16 4 .nil) 20
 Oc))))
(.call 1 (kRg) .nil 16
(.u (.vs 16 4 (.j (.tt ZC) .nil))))))))
(.call 6 (kRg) (.vs 5 4 .nil) 9
(.call 0 [.bool] (.vs 9 4 .nil) 13
(.br (.s 13)
(.call 2 (kPu) (.vs 9 4 .nil) 14
(.call 3 (kPi) (.vs 9 4 .nil) 16
(.br (.beq (.lt (.w 16) (.p 0)) (.lt (.w 17) (.p 0)))
(.call 4 (kPu) (.vs 14 2 (.cons (.F .u64 (.w 16)) (.cons (.F .u64 (.w 17)) .nil))) 18
(.call 6 (kRg) (.vs 18 2 (.vs 16 2 .nil)) 20
 Oc))
(.call 6 (kRg) (.vs 14 4 .nil) 18
(.call 0 [.bool] (.vs 18 4 .nil) 22
(.br (.s 22)
(.call 2 (kPu) (.vs 18 4 .nil) 23
(.call 3 (kPi) (.vs 18 4 .nil) 25
(.br (.eq (.f .shr .u64 (.w 23) (.p 63)) (.f .shr .u64 (.w 24) (.p 63)))
(.call 5 (kPi) (.vs 25 2 (.cons (.F .i64 (.w 23)) (.cons (.F .i64 (.w 24)) .nil))) 27
(.call 6 (kRg) (.vs 23 2 (.vs 27 2 .nil)) 29
 Oe))
(.call 6 (kRg) (.vs 23 4 .nil) 27
(.call 0 [.bool] (.vs 27 4 .nil) 31
(.br (.s 31)
(.call 2 (kPu) (.vs 27 4 .nil) 32
(.call 3 (kPi) (.vs 27 4 .nil) 34
(.u (.vs 27 4 (.j (.tt ZB) .nil)))))
(.call 1 (kRg) .nil 32
(.u (.vs 32 4 (.j (.tt ZC) .nil))))))))))
(.call 1 (kRg) .nil 23
(.u (.vs 23 4 (.j (.tt ZC) .nil))))))))))
(.call 1 (kRg) .nil 14
(.u (.vs 14 4 (.j (.tt ZC) .nil))))))))))
(.call 1 (kRg) .nil 5
(.u (.vs 5 4 (.j (.tt ZC) .nil))))))
def as3:cG ae9 (FH 0 [c_may,c_all,c_uns,c_sig,c_umeet,c_imeet,c_of]) [] [] [] 200 f117 c_nar.a c_nar.r (tp c_nar.r) (v_Rg []) Ub:=FJ (by kernel_rfl)
def Wo:c_nar.Ok ZF:=
 GJ Ub (v_Rg []) ix (Aq xM<|Aq oh<|Aq OB<|Aq OC<|Aq aio<|Aq aiw<|Aq Jc AR) func117 FD as3<|dG fun a ha hp ρ g=>by
 simp only[AP,BO,BN,AT,ZE]at g;simp only[Ub,Oc,Od,Oe,c_may,c_all,c_uns,c_sig,c_umeet,c_imeet,c_of,c_nar,AP,BO,BN,Am,YI,ZE,-eq_self,bW,g];have EO:=Rg.wf_of ha;refine ao ?_;apply aI<;>intro c0;refine ao ?_;refine ao ?_;apply aI<;>intro c1;refine ao ?_;refine ao ?_;refine ao ?_;apply aI<;>intro c2;refine ao ?_;refine ao ?_;apply aI<;>intro c3;refine ao ?_;refine ao ?_;refine ao ?_;apply aI<;>intro c4;refine ao ?_;refine ao ?_;apply aI<;>intro c5;refine ao ?_;refine ao ?_;refine ao ?_;apply aI<;>intro c6;refine ao ?_;refine ao ?_
 ·(have s1:=kO (EO) (by exact c1);have s2:=vM (r:=Bb a) Yg;have s3:=kO (dN (da EO)) (by rw[s2,s1];exact c5);have Ai:Ba a=ZB:=(by unfold Ba;(try rw[s3,s2,s1]);(try rw[c0]);(try rw[c2]);(try rw[c4]);(try rw[c6]);(try rfl));have BR:AF a=Bb (CT (Bb a)):=Xy;rw[Ai,BR];rw[s3,s2,s1];(try rfl))
 refine ao ?_
 ·(have s1:=kO (EO) (by exact c1);have s2:=vM (r:=Bb a) Yg;have s3:=kO (dN (da EO)) (by rw[s2,s1];exact c5);have Ai:Ba a=ZC:=(by unfold Ba;(try rw[s3,s2,s1]);(try rw[c0]);(try rw[c2]);(try rw[c4]);(try rw[c6]);(try rfl));have BR:AF a=ball:=Xy;rw[Ai,BR];(try rfl))
 refine ao ?_;refine ao ?_;apply aI<;>intro c7;refine ao ?_;refine ao ?_
 ·(have s1:=kO (EO) (by exact c1);have s2:=vM (r:=Bb a) Yg;have s3:=qd (dN (da EO)) (by rw[s2,s1];exact c5);have Ai:Ba a=ZB:=(by unfold Ba;(try rw[s3,s2,s1]);(try rw[c0]);(try rw[c2]);(try rw[c4]);(try rw[c7]);(try rfl));have BR:AF a=Bb (CT (Bb a)):=Xy;rw[Ai,BR];rw[s3,s2,s1];(try rfl))
 refine ao ?_
 .exact ak (c4.symm.trans c7) (by simp)
 refine ao ?_
 ·(have s1:=kO (EO) (by exact c1);have s2:=vM (r:=Bb a) Yg;have Ai:Ba a=ZC:=(by unfold Ba;(try rw[s2,s1]);(try rw[c0]);(try rw[c2]);(try rw[c4]);(try rfl));have BR:AF a=ball:=Xy;rw[Ai,BR];(try rfl))
 refine ao ?_;refine ao ?_;apply aI<;>intro c8;refine ao ?_;refine ao ?_;apply aI<;>intro c9;refine ao ?_;refine ao ?_;refine ao ?_;apply aI<;>intro CA;refine ao ?_;refine ao ?_
 ·(have s1:=kO (EO) (by exact c1);have s2:=OG (r:=Bb a) Yg;have s3:=kO (dN (da EO)) (by rw[s2,s1];exact c9);have Ai:Ba a=ZB:=(by unfold Ba;(try rw[s3,s2,s1]);(try rw[c0]);(try rw[c2]);(try rw[c8]);(try rw[CA]);(try rfl));have BR:AF a=Bb (CT (Bb a)):=Xy;rw[Ai,BR];rw[s3,s2,s1];(try rfl))
 refine ao ?_
 ·(have s1:=kO (EO) (by exact c1);have s2:=OG (r:=Bb a) Yg;have s3:=kO (dN (da EO)) (by rw[s2,s1];exact c9);have Ai:Ba a=ZC:=(by unfold Ba;(try rw[s3,s2,s1]);(try rw[c0]);(try rw[c2]);(try rw[c8]);(try rw[CA]);(try rfl));have BR:AF a=ball:=Xy;rw[Ai,BR];(try rfl))
 refine ao ?_;refine ao ?_;apply aI<;>intro DD;refine ao ?_;refine ao ?_
 ·(have s1:=kO (EO) (by exact c1);have s2:=OG (r:=Bb a) Yg;have s3:=qd (dN (da EO)) (by rw[s2,s1];exact c9);have Ai:Ba a=ZB:=(by unfold Ba;(try rw[s3,s2,s1]);(try rw[c0]);(try rw[c2]);(try rw[c8]);(try rw[DD]);(try rfl));have BR:AF a=Bb (CT (Bb a)):=Xy;rw[Ai,BR];rw[s3,s2,s1];(try rfl))
 refine ao ?_
 .exact ak (c8.symm.trans DD) (by simp)
 refine ao ?_
 .exact ak (c2.symm.trans c8) (by simp)
 refine ao ?_
 ·(have s1:=kO (EO) (by exact c1);have Ai:Ba a=ZC:=(by unfold Ba;(try rw[s1]);(try rw[c0]);(try rw[c2]);(try rfl));have BR:AF a=ball:=Xy;rw[Ai,BR];(try rfl))
 refine ao ?_;refine ao ?_;apply aI<;>intro Cp;refine ao ?_;refine ao ?_;apply aI<;>intro C9;refine ao ?_;refine ao ?_;refine ao ?_;apply aI<;>intro DE;refine ao ?_;refine ao ?_;apply aI<;>intro DI;refine ao ?_;refine ao ?_;refine ao ?_;apply aI<;>intro Ew;refine ao ?_;refine ao ?_
 ·(have s1:=qd (EO) (by exact c1);have s2:=vM (r:=Bb a) Yh;have s3:=kO (dN (da EO)) (by rw[s2,s1];exact DI);have Ai:Ba a=ZB:=(by unfold Ba;(try rw[s3,s2,s1]);(try rw[c0]);(try rw[Cp]);(try rw[DE]);(try rw[Ew]);(try rfl));have BR:AF a=Bb (CT (Bb a)):=Xy;rw[Ai,BR];rw[s3,s2,s1];(try rfl))
 refine ao ?_
 ·(have s1:=qd (EO) (by exact c1);have s2:=vM (r:=Bb a) Yh;have s3:=kO (dN (da EO)) (by rw[s2,s1];exact DI);have Ai:Ba a=ZC:=(by unfold Ba;(try rw[s3,s2,s1]);(try rw[c0]);(try rw[Cp]);(try rw[DE]);(try rw[Ew]);(try rfl));have BR:AF a=ball:=Xy;rw[Ai,BR];(try rfl))
 refine ao ?_;refine ao ?_;apply aI<;>intro Ec;refine ao ?_;refine ao ?_
 ·(have s1:=qd (EO) (by exact c1);have s2:=vM (r:=Bb a) Yh;have s3:=qd (dN (da EO)) (by rw[s2,s1];exact DI);have Ai:Ba a=ZB:=(by unfold Ba;(try rw[s3,s2,s1]);(try rw[c0]);(try rw[Cp]);(try rw[DE]);(try rw[Ec]);(try rfl));have BR:AF a=Bb (CT (Bb a)):=Xy;rw[Ai,BR];rw[s3,s2,s1];(try rfl))
 refine ao ?_
 .exact ak (DE.symm.trans Ec) (by simp)
 refine ao ?_
 ·(have s1:=qd (EO) (by exact c1);have s2:=vM (r:=Bb a) Yh;have Ai:Ba a=ZC:=(by unfold Ba;(try rw[s2,s1]);(try rw[c0]);(try rw[Cp]);(try rw[DE]);(try rfl));have BR:AF a=ball:=Xy;rw[Ai,BR];(try rfl))
 refine ao ?_;refine ao ?_;apply aI<;>intro DJ;refine ao ?_;refine ao ?_;apply aI<;>intro D7;refine ao ?_;refine ao ?_;refine ao ?_;apply aI<;>intro FN;refine ao ?_;refine ao ?_
 ·(have s1:=qd (EO) (by exact c1);have s2:=OG (r:=Bb a) Yh;have s3:=kO (dN (da EO)) (by rw[s2,s1];exact D7);have Ai:Ba a=ZB:=(by unfold Ba;(try rw[s3,s2,s1]);(try rw[c0]);(try rw[Cp]);(try rw[DJ]);(try rw[FN]);(try rfl));have BR:AF a=Bb (CT (Bb a)):=Xy;rw[Ai,BR];rw[s3,s2,s1];(try rfl))
 refine ao ?_
 ·(have s1:=qd (EO) (by exact c1);have s2:=OG (r:=Bb a) Yh;have s3:=kO (dN (da EO)) (by rw[s2,s1];exact D7);have Ai:Ba a=ZC:=(by unfold Ba;(try rw[s3,s2,s1]);(try rw[c0]);(try rw[Cp]);(try rw[DJ]);(try rw[FN]);(try rfl));have BR:AF a=ball:=Xy;rw[Ai,BR];(try rfl))
 refine ao ?_;refine ao ?_;apply aI<;>intro GU;refine ao ?_;refine ao ?_
 ·(have s1:=qd (EO) (by exact c1);have s2:=OG (r:=Bb a) Yh;have s3:=qd (dN (da EO)) (by rw[s2,s1];exact D7);have Ai:Ba a=ZB:=(by unfold Ba;(try rw[s3,s2,s1]);(try rw[c0]);(try rw[Cp]);(try rw[DJ]);(try rw[GU]);(try rfl));have BR:AF a=Bb (CT (Bb a)):=Xy;rw[Ai,BR];rw[s3,s2,s1];(try rfl))
 refine ao ?_
 .exact ak (DJ.symm.trans GU) (by simp)
 refine ao ?_
 .exact ak (Cp.symm.trans DJ) (by simp)
 refine ao ?_
 .exact ak (c0.symm.trans Cp) (by simp)
 refine ao ?_
 ·(have Ai:Ba a=ZC:=(by unfold Ba;(try rw[Ai]);(try rw[c0]);(try rfl));have BR:AF a=ball:=Xy;rw[Ai,BR];(try rfl))
def c_plus:Cd:=⟨171,[.one (.int .i64),.one (.int .i64)],[.one (.int .i64),.one .bool],rdZ fun a=>rdZ fun b _=>[.z (ZG .i64 (a+b)),.z (Ay (decide (-9223372036854775808<=a+b/\a+b<=9223372036854775807)))],T0⟩
def agH:Tr:=
(.u (.cons (.f .add .i64 (.w 0) (.w 1)) (.j (.not (.lt (.f .and .i64 (.f .xor .i64 (.w 0) (.f .add .i64 (.w 0) (.w 1))) (.f .xor .i64 (.w 1) (.f .add .i64 (.w 0) (.w 1)))) (.p 0))) .nil)))
def at6:c_plus.Ok ZF:=
 A4 agH [.int .i64,.int .i64] ix AR func171<|fun a ha b hb hp ρ g=>by
 simp only[AT,ZE]at g;simp only[agH,c_plus,Am,YI,ZE,-eq_self,g]
 ·(have ga:=iX ha;have gb:=iX hb;simp only[Ac,<-dq,<-ahx ga.1 ga.2 gb.1 gb.2,Go.IntWalk.i64_left])
def c_minus:Cd:=⟨172,[.one (.int .i64),.one (.int .i64)],[.one (.int .i64),.one .bool],rdZ fun a=>rdZ fun b _=>[.z (ZG .i64 (a-b)),.z (Ay (decide (-9223372036854775808<=a-b/\a-b<=9223372036854775807)))],T0⟩
def abA:Tr:=
(.u (.cons (.f .sub .i64 (.w 0) (.w 1)) (.j (.not (.lt (.f .and .i64 (.f .xor .i64 (.w 0) (.w 1)) (.f .xor .i64 (.w 0) (.f .sub .i64 (.w 0) (.w 1)))) (.p 0))) .nil)))
def arp:c_minus.Ok ZF:=
 A4 abA [.int .i64,.int .i64] ix AR func172<|fun a ha b hb hp ρ g=>by
 simp only[AT,ZE]at g;simp only[abA,c_minus,Am,YI,ZE,-eq_self,g]
 ·(have ga:=iX ha;have gb:=iX hb;simp only[Ac,<-dq,<-adQ ga.1 ga.2 gb.1 gb.2,Go.IntWalk.i64_left])
def c_nard:Cd:=⟨136,[.agg kRg],[.agg kRg],rd_Rg fun a _=>d_Rg (AF a) [],T0⟩
def agJ:Tr:=
(.call 0 (kRg++[.bool]) (.vs 0 4 .nil) 4
(.u (.vs 4 4 .nil)))
def anL:c_nard.Ok ZF:=
 A4 agJ (v_Rg []) ix (Aq Wo AR) func136<|dG fun a ha hp ρ g=>by
 simp only[AP,AT,ZE]at g;simp only[agJ,c_nar,c_nard,AP,Am,YI,ZE,-eq_self,bW,g];refine ao ?_
 .rfl
def c_meet:Cd:=⟨109,[.agg kRg,.agg kRg],[.agg kRg,.one .bool],rd_Rg fun a=>rd_Rg fun b _=>d_Rg (jw a b) [.z (Ay (fx a b))],T0⟩
def agN:Tr:=
(.call 0 [.bool] (.vs 0 4 .nil) 8
(.br (.s 8)
(.call 0 [.bool] (.vs 4 4 .nil) 9
(.br (.s 9)
(.call 2 (kPu) (.vs 0 4 .nil) 10
(.call 2 (kPu) (.vs 4 4 .nil) 12
(.call 4 (kPu) (.vs 10 4 .nil) 14
(.call 3 (kPi) (.vs 0 4 .nil) 16
(.call 3 (kPi) (.vs 4 4 .nil) 18
(.call 5 (kPi) (.vs 16 4 .nil) 20
(.call 6 (kRg) (.vs 14 2 (.vs 20 2 .nil)) 22
(.call 7 (kRg++[.bool]) (.vs 22 4 .nil) 26
(.u (.vs 26 4 (.j (.s 30) .nil)))))))))))
(.call 1 (kRg) .nil 10
(.u (.vs 10 4 (.j (.tt ZC) .nil))))))
(.call 1 (kRg) .nil 9
(.u (.vs 9 4 (.j (.tt ZC) .nil))))))
def anN:c_meet.Ok ZF:=
 A4 agN (v_Rg (v_Rg [])) ix (Aq xM<|Aq oh<|Aq OB<|Aq OC<|Aq aio<|Aq aiw<|Aq Jc<|Aq Wo AR) func109<|dG fun a ha=>dG fun b hb hp ρ g=>by
 simp only[AP,BO,BN,AT,ZE]at g;simp only[agN,c_may,c_all,c_uns,c_sig,c_umeet,c_imeet,c_of,c_nar,c_meet,AP,BO,BN,Am,YI,ZE,-eq_self,bW,g];refine ao ?_
 .repeat' first|apply aI<;>intro c|refine ao ?_|exact Yp
def c_low:Cd:=⟨145,[.agg kRg],[.agg kRg],rd_Rg fun a _=>d_Rg (CZ a) [],T0⟩
def Of:Tr:=(.call 1 (kRg) .nil 5
(.call 2 (kRg) (.cons (.w 5) (.cons (.p 4294967295) (.vs 7 2 .nil))) 9
(.u (.vs 9 4 .nil))))
def anb:Tr:=
(.call 0 [.bool] (.vs 0 4 .nil) 4
(.br (.s 4)
(.br (.lt (.p 4294967295) (.w 1))
 Of
(.u (.vs 0 4 .nil)))
 Of))
def aua:c_low.Ok ZF:=
 A4 anb (v_Rg []) ix (Aq xM<|Aq oh<|Aq anL AR) func145<|dG fun a ha hp ρ g=>by
 simp only[AP,AT,ZE]at g;simp only[anb,Of,c_may,c_all,c_nard,c_low,AP,Am,YI,ZE,-eq_self,bW,g];refine ao ?_;apply aI<;>intro c0;apply aI<;>intro c1;refine ao ?_;refine ao ?_
 ·(rw[show CZ a=AF (bu 0 4294967295)from aa (fun q=>ak (Ae c1) (bR.2 q.2))];try rfl)
 ·(rw[show CZ a=a from ae ⟨c0,bR.1 (Af c1)⟩];try rfl)
 refine ao ?_;refine ao ?_
 ·(rw[show CZ a=AF (bu 0 4294967295)from aa (fun q=>by rw[c0]at q;exact ak q.1 (by simp))];try rfl)
set_option linter.unusedSectionVars false
open Go
def EU{x0 x1 x2 x3 y0 y1 y2 y3:Int}(h0:x0=y0)(h1:x1=y1)(h2:x2=y2)(h3:x3=y3):[Dt.z x0,.z x1,.z x2,.z x3]=[Dt.z y0,.z y1,.z y2,.z y3]:=by rw[h0,h1,h2,h3]
def eP{r s:Rg}(h:r=s):[Dt.z r.ul,.z r.uh,.z r.sl,.z r.sh]=[Dt.z s.ul,.z s.uh,.z s.sl,.z s.sh]:=by rw[h]
def BW(t:Bool)(a b:Rg):Rg:=
 match t with
 |false=>⟨if a.uh+b.uh<=18446744073709551615 then IntKind.u64.wrap (a.ul+b.ul)else 0,if a.uh+b.uh<=18446744073709551615 then a.uh+b.uh else 18446744073709551615,(Ff a b).sl,(Ff a b).sh⟩
 |true=>⟨if b.uh<=a.ul then IntKind.u64.wrap (a.ul-b.uh)else 0,if b.uh<=a.ul then IntKind.u64.wrap (a.uh-b.ul)else 18446744073709551615,(Fe a b).sl,(Fe a b).sh⟩
section
variable {a b:Rg}(ha:a.ok)(hb:b.ok)
def Rq(h1:decide (-9223372036854775808<=a.sl+b.sl/\a.sl+b.sl<=9223372036854775807)=ZB)(h2:decide (-9223372036854775808<=a.sh+b.sh/\a.sh+b.sh<=9223372036854775807)=ZB):
  IntKind.i64.wrap (a.sl+b.sl)=(BW ZC a b).sl/\IntKind.i64.wrap (a.sh+b.sh)=(BW ZC a b).sh:=by
 have h1:=Ae h1;have h2:=Ae h2;simp only[BW,Ff];rw[ae ⟨h1,h2⟩,ae ⟨h1,h2⟩,aK,aK];omega
def oB(h:decide (-9223372036854775808<=a.sl+b.sl/\a.sl+b.sl<=9223372036854775807)=ZC\/decide (-9223372036854775808<=a.sh+b.sh/\a.sh+b.sh<=9223372036854775807)=ZC):
  ball.sl=(BW ZC a b).sl/\ball.sh=(BW ZC a b).sh:=by
 have hn:¬((-9223372036854775808<=a.sl+b.sl/\a.sl+b.sl<=9223372036854775807)/\(-9223372036854775808<=a.sh+b.sh/\a.sh+b.sh<=9223372036854775807)):=fun q=>by
  rcases h with h|h
  .exact Af h q.1
  .exact Af h q.2
 simp only[BW,Ff];rw[aa hn,aa hn];exact⟨rfl,rfl⟩
def RX(h1:decide (-9223372036854775808<=a.sl-b.sh/\a.sl-b.sh<=9223372036854775807)=ZB)(h2:decide (-9223372036854775808<=a.sh-b.sl/\a.sh-b.sl<=9223372036854775807)=ZB):
  IntKind.i64.wrap (a.sl-b.sh)=(BW ZB a b).sl/\IntKind.i64.wrap (a.sh-b.sl)=(BW ZB a b).sh:=by
 have h1:=Ae h1;have h2:=Ae h2;simp only[BW,Fe];rw[ae ⟨h1,h2⟩,ae ⟨h1,h2⟩,aK,aK];omega
def oM(h:decide (-9223372036854775808<=a.sl-b.sh/\a.sl-b.sh<=9223372036854775807)=ZC\/decide (-9223372036854775808<=a.sh-b.sl/\a.sh-b.sl<=9223372036854775807)=ZC):
  ball.sl=(BW ZB a b).sl/\ball.sh=(BW ZB a b).sh:=by
 have hn:¬((-9223372036854775808<=a.sl-b.sh/\a.sl-b.sh<=9223372036854775807)/\(-9223372036854775808<=a.sh-b.sl/\a.sh-b.sl<=9223372036854775807)):=fun q=>by
  rcases h with h|h
  .exact Af h q.1
  .exact Af h q.2
 simp only[BW,Fe];rw[aa hn,aa hn];exact⟨rfl,rfl⟩
include ha hb
theorem sd(h:((a.uh+b.uh) / 18446744073709551616==0)=ZB):Ac .add .u64 a.ul b.ul=(BW ZC a b).ul/\(a.uh+b.uh) % 18446744073709551616=(BW ZC a b).uh:=by have h:=cb.1 h;have wa:=(Rg.wf_of ha).2.1;have wb:=(Rg.wf_of hb).2.1;have hc:a.uh+b.uh<=18446744073709551615:=Fn;simp only[BW];rw[ae hc,ae hc];exact⟨rfl,by omega⟩
theorem se(h:((a.uh+b.uh) / 18446744073709551616==0)=ZC):ball.ul=(BW ZC a b).ul/\ball.uh=(BW ZC a b).uh:=by have h:=jq.1 h;have wa:=(Rg.wf_of ha).2.1;have wb:=(Rg.wf_of hb).2.1;have hc:¬a.uh+b.uh<=18446744073709551615:=Fn;simp only[BW];rw[aa hc,aa hc];exact⟨rfl,rfl⟩
omit ha hb
theorem tj(h:decide (a.ul<b.uh)=ZC):Ac .sub .u64 a.ul b.uh=(BW ZB a b).ul/\Ac .sub .u64 a.uh b.ul=(BW ZB a b).uh:=by have hc:b.uh<=a.ul:=bR.1 (Af h);simp only[BW];rw[ae hc,ae hc];exact⟨rfl,rfl⟩
theorem tq(h:decide (a.ul<b.uh)=ZB):ball.ul=(BW ZB a b).ul/\ball.uh=(BW ZB a b).uh:=by have hc:¬b.uh<=a.ul:=Int.not_le.2 (Ae h);simp only[BW];rw[aa hc,aa hc];exact⟨rfl,rfl⟩
end
def fK{a b:Rg}(ma:AS a=ZB)(mb:AS b=ZB){X:Rg}(h:X=CS op a b):AF X=DT op a b:=by unfold DT;rw[ae ⟨ma,mb⟩,h]
def asA{a b:Rg}(ha:a.ok)(hb:b.ok)(ma:AS a=ZB)(mb:AS b=ZB):BW ZC a b=Ff a b:=by
 have wa:=Rg.wf_of ha;have wb:=Rg.wf_of hb;rw[dj]at ma mb;obtain⟨⟨a0,a1⟩,⟨a2,a3⟩,_⟩:=wa;obtain⟨⟨b0,b1⟩,⟨b2,b3⟩,_⟩:=wb;rw[Rg.ext_iff];refine⟨?_,rfl,rfl,rfl⟩;simp only[BW,Ff];split
 .exact Yy
 .rfl
def asz{a b:Rg}(ha:a.ok)(hb:b.ok)(ma:AS a=ZB)(mb:AS b=ZB):BW ZB a b=Fe a b:=by
 have wa:=Rg.wf_of ha;have wb:=Rg.wf_of hb;rw[dj]at ma mb;obtain⟨⟨a0,a1⟩,⟨a2,a3⟩,_⟩:=wa;obtain⟨⟨b0,b1⟩,⟨b2,b3⟩,_⟩:=wb;rw[Rg.ext_iff];refine⟨?_,?_,rfl,rfl⟩<;>simp only[BW,Fe]<;>split
 .exact Yy
 .rfl
 .exact Yy
 .rfl
def Bd(h:(x==z)=ZB):x=z:=by simpa using h
def CR(h:(x==z)=ZC):x≠z:=by simpa using h
def TH(h0:0<=m)(h1:m<=18446744073709551615):Ac .sub .u64 (Ac .shl .u64 1 (aA m.toNat)) 1=kR m:=by have hb:aA m.toNat<=64:=gF Fn;have h2:=vA h1;unfold kR at h2 ⊢;show IntKind.u64.wrap (ZG .u64 (1*2 ^ min ((aA m.toNat:Int).toNat) 64)-1)=_;rw[cy,Nat.min_eq_left hb,Int.one_mul];generalize (2:Int) ^ aA m.toNat=t at *;rw[bg,bg];omega
def ahI(x0:0<=x)(x1:x<=18446744073709551615)(y0:0<y):Ac .quo .u64 x y=x / y:=by show IntKind.u64.wrap (x.tdiv y)=_;rw[Int.tdiv_eq_ediv_of_nonneg x0,bg];have:=UL (z:=y) x0 x1 y0;omega
def Wf{b:Rg}(hb:b.ok)(h:eH b=ZB):Ac .and .u64 (aE b) 63=((GS b:Nat):Int)/\GS b<64:=by have wb:=Rg.wf_of hb;have e:aE b=b.ul:=YB;show bits .and .u64 (aE b) 63=_/\_;rw[e,Wq _ wb.1.1 wb.1.2];unfold GS;omega
def ahG{k:Nat}(x0:0<=x)(hk:k<64):Ac .shr .u64 x (k:Int)=x / 2 ^ k:=by show x.fdiv (2 ^ min (k:Int).toNat 64)=_;rw[cy,Nat.min_eq_left Fn,Int.fdiv_eq_ediv_of_nonneg _ (Int.le_of_lt (Int.pow_pos Fn))]
def ahH{k:Nat}(hk:k<64)(h:0<=x*2 ^ k)(h':x*2 ^ k<=18446744073709551615):Ac .shl .u64 x (k:Int)=x*2 ^ k:=by show IntKind.u64.wrap (x*2 ^ min (k:Int).toNat 64)=_;rw[cy,Nat.min_eq_left Fn,bg];omega
section
variable {op:Int}{a b:Rg}(ha:a.ok)(hb:b.ok)(ma:AS a=ZB)(mb:AS b=ZB)
include ha hb ma mb
theorem awH(h:(op==11)=ZB):AF b=DT op a b:=fK ma mb (by rw[Bd h];simp[CS])
theorem WU(h:(op==0)=ZB):AF (BW (op==1) a b)=DT op a b:=fK ma mb (by rw[Bd h];rw[show((0:Int)==1)=ZC from rfl,asA ha hb ma mb];simp[CS])
theorem WV(h:(op==1)=ZB):AF (BW (op==1) a b)=DT op a b:=fK ma mb (by rw[h,Bd h,asz ha hb ma mb];simp[CS])
theorem WY(h:(op==5)=ZB):AF ⟨ball.ul,min a.uh b.uh,ball.sl,ball.sh⟩=DT op a b:=fK ma mb (by rw[Bd h];simp[CS,bu,ball])
theorem aty:0<=max a.uh b.uh/\max a.uh b.uh<=18446744073709551615:=by have wa:=Rg.wf_of ha;have wb:=Rg.wf_of hb;have:=wa.2.1;have:=wb.2.1;omega
theorem WX(h:(op==4)=ZB):AF ⟨max a.ul b.ul,Ac .sub .u64 (Ac .shl .u64 1 (aA (max a.uh b.uh).toNat)) 1,ball.sl,ball.sh⟩=DT op a b:=fK ma mb (by
 have:=aty ha hb ma mb;rw[Bd h,TH this.1 this.2];simp[CS,bu,ball])
theorem awI(h:(op==10)=ZB):AF ⟨ball.ul,Ac .sub .u64 (Ac .shl .u64 1 (aA (max a.uh b.uh).toNat)) 1,ball.sl,ball.sh⟩=DT op a b:=fK ma mb (by
 have:=aty ha hb ma mb;rw[Bd h,TH this.1 this.2];simp[CS,bu,ball])
theorem WW(h:(op==3)=ZB)(hc:decide (0<b.ul)=ZB):AF ⟨Ac .quo .u64 a.ul b.uh,Ac .quo .u64 a.uh b.ul,ball.sl,ball.sh⟩=DT op a b:=fK ma mb (by
 have hc:=Ae hc;have wa:=Rg.wf_of ha;rw[dj]at mb;rw[Bd h,ahI wa.1.1 wa.1.2 Fn,ahI wa.2.1.1 wa.2.1.2 hc];simp[CS,bu,ball,hc])
theorem awG(h:(op==3)=ZB)(hc:decide (0<b.ul)=ZC):AF ⟨ball.ul,a.uh,ball.sl,ball.sh⟩=DT op a b:=fK ma mb (by
 have hc:=Af hc;rw[Bd h];simp[CS,bu,ball,hc])
theorem W2(h:(op==9)=ZB)(hc:decide (0<b.ul)=ZB):AF ⟨ball.ul,min a.uh (Ac .sub .u64 b.uh 1),ball.sl,ball.sh⟩=DT op a b:=fK ma mb (by
 have hc:=Ae hc;have wb:=Rg.wf_of hb;rw[dj]at mb;rw[Bd h,show Ac .sub .u64 b.uh 1=b.uh-1 from by show IntKind.u64.wrap (b.uh-1)=_;rw[bg];have:=wb.2.1;omega];simp[CS,bu,ball,hc])
theorem awC(h:(op==9)=ZB)(hc:decide (0<b.ul)=ZC):AF ⟨ball.ul,a.uh,ball.sl,ball.sh⟩=DT op a b:=fK ma mb (by
 have hc:=Af hc;rw[Bd h];simp[CS,bu,ball,hc])
theorem W1(h:(op==7)=ZB)(hc:eH b=ZB):AF ⟨Ac .shr .u64 a.ul (Ac .and .u64 (aE b) 63),Ac .shr .u64 a.uh (Ac .and .u64 (aE b) 63),ball.sl,ball.sh⟩=DT op a b:=fK ma mb (by
 have wa:=Rg.wf_of ha;obtain⟨e,e2⟩:=Wf hb hc;rw[Bd h,e,ahG wa.1.1 e2,ahG wa.2.1.1 e2];simp[CS,bu,ball,hc])
theorem awD(h:(op==7)=ZB)(hc:eH b=ZC):AF ball=DT op a b:=fK ma mb (by
 rw[Bd h];simp[CS,hc])
theorem Q0(hc:eH b=ZB):decide (64-(aA a.uh.toNat:Int)<ZG .i64 (Ac .and .u64 (aE b) 63)) = !decide (aA a.uh.toNat+GS b<=64):=by obtain⟨e,e2⟩:=Wf hb hc;rw[e,aK];rw[ar];simp;omega
theorem WZ(h:(op==6)=ZB)(hc:eH b=ZB)(hl:decide (64-(aA a.uh.toNat:Int)<ZG .i64 (Ac .and .u64 (aE b) 63))=ZC):AF ⟨Ac .shl .u64 a.ul (Ac .and .u64 (aE b) 63),Ac .shl .u64 a.uh (Ac .and .u64 (aE b) 63),ball.sl,ball.sh⟩=DT op a b:=fK ma mb (by
 have wa:=Rg.wf_of ha;rw[Q0 ha hb ma mb hc]at hl;have B0:aA a.uh.toNat+GS b<=64:=Ya;obtain⟨e,e2⟩:=Wf hb hc;rw[dj]at ma;obtain⟨h1,h2,h3⟩:=Ud wa.1.1 ma.1 B0;rw[Bd h,e,ahH e2 h1 Fn,ahH e2 Fn h3];simp[CS,bu,ball,hc,B0])
theorem awE(h:(op==6)=ZB)(hc:eH b=ZB)(hl:decide (64-(aA a.uh.toNat:Int)<ZG .i64 (Ac .and .u64 (aE b) 63))=ZB):AF ball=DT op a b:=fK ma mb (by
 rw[Q0 ha hb ma mb hc]at hl;have B0:¬aA a.uh.toNat+GS b<=64:=Ya;rw[Bd h];simp[CS,hc,B0])
theorem awF(h:(op==6)=ZB)(hc:eH b=ZC):AF ball=DT op a b:=fK ma mb (by
 rw[Bd h];simp[CS,hc])
theorem W3(Gr:(op==11)=ZC)(h0:(op==0)=ZC)(h1:(op==1)=ZC)(h5:(op==5)=ZC)(h4:(op==4)=ZC)(HU:(op==10)=ZC)(h3:(op==3)=ZC)(h9:(op==9)=ZC)(h7:(op==7)=ZC)(h6:(op==6)=ZC):AF ball=DT op a b:=fK ma mb (by
 unfold CS;rw[aa (CR Gr),aa (CR h0),aa (CR h1),aa (CR h5),aa (CR h4),aa (CR HU),aa (CR h3),aa (CR h9),aa (CR h7),aa (CR h6)])
end
def aob{a b:Rg}(h:AS a=ZC\/AS b=ZC):ball=DT op a b:=by unfold DT;rw[aa (fun e=>by rcases h with h|h<;>simp[h]at e)]
def dx{r s:Rg}{u:Bool}(h:r=s)(h':t=u):[Dt.z r.ul,.z r.uh,.z r.sl,.z r.sh,.z (Ay t)]=[Dt.z s.ul,.z s.uh,.z s.sl,.z s.sh,.z (Ay u)]:=by rw[h,h']
section
variable {cc:Int}{a b X:Rg}
def ke(c0:cc≠0)(hg:jy cc a b=ZB)(hc:Bu cc a b=ZB)(e:X=BQ cc a b):AF X=CY cc a b/\Ba X=Cz cc a b:=by
 subst e;have h1:Cz cc a b=Ba (BQ cc a b):=by unfold Cz;rw[hg,hc,aa c0];rfl
 refine⟨?_,h1.symm⟩;unfold CY;rw[h1,aa c0];cases h:Ba (BQ cc a b)
 .unfold AF;rw[h];simp
 .simp
def gS(h:jy cc a b=ZC\/(cc≠0/\Bu cc a b=ZC)):ball=CY cc a b/\ZC=Cz cc a b:=by
 have h1:Cz cc a b=ZC:=by
  unfold Cz;rcases h with h|⟨h0,h⟩
  .rw[h];rfl
  .rw[h,aa h0];simp
 exact⟨by unfold CY;rw[h1];simp,h1.symm⟩
def auz(hg:jy 0 a b=ZB):jw a b=CY 0 a b/\fx a b=Cz 0 a b:=by
 have e:Cz 0 a b=fx a b:=by unfold Cz;rw[hg];rfl
 refine⟨?_,e.symm⟩;unfold CY;rw[e];cases h:fx a b
 .unfold jw;rw[h];simp
 .simp
def cd(c0:AS a=ZB)(c1:AS b=ZB)(h:0<=cc/\cc<=10):jy cc a b=ZB:=by unfold jy;rw[c0,c1,cP h.1,cP h.2];rfl
end
structure Kn where
 v:Int
 m:Int
 deriving DecidableEq
def Kn.wf(a:Kn):Prop:=(0<=a.v/\a.v<=18446744073709551615)/\(0<=a.m/\a.m<=18446744073709551615)
def kall:Kn:=⟨0,18446744073709551615⟩
def Es(v:Int):Kn:=⟨v,0⟩
def Bz(a:Kn):Bool:=bits .and .u64 a.v a.m==0
def AU(a:Kn)(x:Int):Bool:=Bz a&&(bits .andNot .u64 x a.m==a.v)
def jW(v m:Int):Kn:=⟨bits .andNot .u64 v m,m⟩
def ju(a b:Kn):Kn:=if Bz a=ZB/\Bz b=ZB then jW a.v (bits .or .u64 (bits .or .u64 a.m b.m) (bits .xor .u64 a.v b.v))else kall
def zR(a b:Kn):Int:=bits .andNot .u64 (bits .xor .u64 a.v b.v) (bits .or .u64 a.m b.m)
def eN(a b:Kn):Bool:=Bz a&&(Bz b&&(zR a b==0))
def jt(a b:Kn):Kn:=if eN a b=ZB then jW (bits .or .u64 a.v b.v) (bits .and .u64 a.m b.m)else kall
def Jw(a b:Kn):Bool:=Bz a&&(Bz b&&((bits .or .u64 a.m b.m==b.m)&&(bits .andNot .u64 a.v b.m==b.v)))
def B1(a:Kn)(w:Int):Kn:=if Bz a=ZB then⟨Ar a.v w,Ar a.m w⟩else kall
def Jd(a b:Kn):Kn:=jW (ZG .u64 (a.v+b.v)) (bits .or .u64 (bits .or .u64 (bits .xor .u64 (ZG .u64 (a.v+b.v)) (ZG .u64 (ZG .u64 (a.m+b.m)+ZG .u64 (a.v+b.v)))) a.m) b.m)
def FW(a b:Kn):Kn:=jW (ZG .u64 (a.v-b.v)) (bits .or .u64 (bits .or .u64 (bits .xor .u64 (ZG .u64 (ZG .u64 (a.v-b.v)+a.m)) (ZG .u64 (ZG .u64 (a.v-b.v)-b.m))) a.m) b.m)
def NQ(a b:Kn):Kn:=⟨bits .and .u64 a.v b.v,bits .andNot .u64 (bits .and .u64 (bits .or .u64 a.v a.m) (bits .or .u64 b.v b.m)) (bits .and .u64 a.v b.v)⟩
def kor(a b:Kn):Kn:=⟨bits .or .u64 a.v b.v,bits .andNot .u64 (bits .or .u64 a.m b.m) (bits .or .u64 a.v b.v)⟩
def Lj(a b:Kn):Kn:=jW (bits .xor .u64 a.v b.v) (bits .or .u64 a.m b.m)
def R2(op w:Int)(a b:Kn):Kn:=jW (BI op w a.v (bits .and .u64 b.v (w-1))) (BI op w a.m (bits .and .u64 b.v (w-1)))
def Dk(op w:Int)(a b:Kn):Kn:=
 if op=0 then Jd a b else if op=1 then FW a b else if op=4 then kor a b else if op=5 then NQ a b
 else if op=6\/op=7\/op=12 then(if(bits .and .u64 b.m (w-1)==0)=ZB then R2 op w a b else kall)
 else if op=8 then FW (Es 0) a else if op=10 then Lj a b else if op=11 then b else kall
def ee(op w:Int)(a b:Kn):Bool:=Bz a&&(Bz b&&(decide (0<=op)&&(decide (op<=12)&&iJ w)))
def IJ(op w:Int)(a b:Kn):Kn:=
 if ee op w a b=ZB then
  (if(bits .or .u64 (B1 a w).m (B1 b w).m==0)=ZB then Es (BI op w (B1 a w).v (B1 b w).v)else B1 (Dk op w (B1 a w) (B1 b w)) w)
 else kall
def C2(w:World)(b:Nat)(x y:Value):Prop:=w.cell? ⟨b,0,ZD⟩=ZA x/\w.cell? ⟨b,1,ZD⟩=ZA y/\∀j,w.frozen? ⟨b,j,ZD⟩=ZC
def Bk(w:World)(b:Nat)(cs:Array Value)(t:TypeId):Prop:=w.heap[b]? =ZA (.cells cs t (0,0))
def Bk.lt{w:World}{t:TypeId}(h:Bk w b cs t):b<w.heap.size:=by
 rcases bn b w.heap.size with Ap|Dp
 .exact Ap
 .rw[Bk,Array.getElem?_eq_none Dp]at h;cases h
def Bk.ext{w:World}{t:TypeId}(h:Bk w b cs t)(hx:Ext w w'):Bk w' b cs t:=by unfold Bk at h ⊢;rw[hx.block b (Bk.lt h)];exact h
def Bk.cell{w:World}{t:TypeId}(h:Bk w b cs t)(j:Nat):w.cell? ⟨b,j,ZD⟩=cs[j]? :=cell_of_row w b j cs t (0,0) h
def Bk.free{w:World}{t:TypeId}(h:Bk w b cs t)(j:Nat):w.frozen? ⟨b,j,ZD⟩=ZC:=frozen_of_row w b j cs t h
def Bk.new{w:World}{t:TypeId}(hx:Ext (w.alloc (.cells cs t)) w'):Bk w' w.heap.size cs t:=Bk.ext (w:=w.alloc (.cells cs t)) (heap_alloc_new _ _) hx
def Bk.two{w:World}{x y:Value}{t:TypeId}(h:Bk w b #[x,y] t):C2 w b x y:=⟨h.cell 0,h.cell 1,h.free⟩
def C2.ext{w:World}{x y:Value}(h:C2 w b x y)(hx:Ext w w'):C2 w' b x y:=⟨hx.cell h.1,hx.cell h.2.1,fun j=>(Below.frozen hx (p:=⟨b,j,ZD⟩) (World.block_lt_of_cell? w ⟨b,0,ZD⟩ h.1)).trans (h.2.2 j)⟩
def C2.lt{w:World}{x y:Value}(h:C2 w b x y):b<w.heap.size:=World.block_lt_of_cell? w ⟨b,0,ZD⟩ h.1
def C2.off1{w:World}{x y:Value}(h:C2 w b x y)(c j:Nat)(u:Value)(Bg:c≠b):C2 (w.setCell ⟨c,j,ZD⟩ u) b x y:=by refine⟨(World.cell?_setCell_other w ⟨c,j,ZD⟩ ⟨b,0,ZD⟩ u (fun e=>Bg (congrArg Addr.block e))).trans h.1,(World.cell?_setCell_other w ⟨c,j,ZD⟩ ⟨b,1,ZD⟩ u (fun e=>Bg (congrArg Addr.block e))).trans h.2.1,fun i=> ?_⟩;have:=h.2.2 i;simpa[go_sem]using this
def C2.off{w:World}{x y:Value}(h:C2 w b x y)(c:Nat)(u v:Value)(Bg:c≠b):C2 ((w.setCell ⟨c,0,ZD⟩ u).setCell ⟨c,1,ZD⟩ v) b x y:=(h.off1 c 0 u Bg).off1 c 1 v Bg
def C2.put{w:World}{x y:Value}(h:C2 w b x y)(u v:Value):C2 ((w.setCell ⟨b,0,ZD⟩ u).setCell ⟨b,1,ZD⟩ v) b u v:=by obtain⟨h0,h1,h2⟩:=h;have e0:(w.setCell ⟨b,0,ZD⟩ u).cell? ⟨b,0,ZD⟩=ZA u:=World.cell?_setCell_same w ⟨b,0,ZD⟩ u h0;have e1:(w.setCell ⟨b,0,ZD⟩ u).cell? ⟨b,1,ZD⟩=ZA y:=(World.cell?_setCell_other w ⟨b,0,ZD⟩ ⟨b,1,ZD⟩ u (by simp)).trans h1;refine⟨(World.cell?_setCell_other _ ⟨b,1,ZD⟩ ⟨b,0,ZD⟩ v (by simp)).trans e0,World.cell?_setCell_same _ ⟨b,1,ZD⟩ v e1,fun i=> ?_⟩;have:=h2 i;simpa[go_sem]using this
def tN(x:Int):0<=ZG .u64 x/\IntKind.u64.wrap x<=18446744073709551615:=by rw[bg];omega
def iH(x y:Int):0<=bits .and .u64 x y/\bits .and .u64 x y<=18446744073709551615:=tN _
def iV(x y:Int):0<=bits .or .u64 x y/\bits .or .u64 x y<=18446744073709551615:=tN _
def rU(x y:Int):0<=bits .xor .u64 x y/\bits .xor .u64 x y<=18446744073709551615:=tN _
def eJ(x y:Int):0<=bits .andNot .u64 x y/\bits .andNot .u64 x y<=18446744073709551615:=tN _
def jB:kall.wf:=by unfold Kn.wf kall;simp
def tS(h:0<=v/\v<=18446744073709551615):(Es v).wf:=⟨h,by simp[Es]⟩
def eV(h:0<=m/\m<=18446744073709551615):(jW v m).wf:=⟨eJ _ _,h⟩
def km(a b:Kn):(ju a b).wf:=by unfold ju;split;exact eV (iV _ _);exact jB
def jA{a:Kn}(h:a.wf)(w:Int):(B1 a w).wf:=by
 unfold B1;split
 .exact⟨dJ _ _ h.1.1 h.1.2,dJ _ _ h.2.1 h.2.2⟩
 .exact jB
def amG{a b:Kn}(ha:a.wf)(hb:b.wf)(op w:Int):(Dk op w a b).wf:=by
 have hs:=iH b.v (w-1);unfold Dk;repeat' split
 .exact eV (iV _ _)
 .exact eV (iV _ _)
 .exact⟨iV _ _,eJ _ _⟩
 .exact⟨iH _ _,eJ _ _⟩
 .exact eV (fc _ _ _ _ ha.2.1 ha.2.2 hs.1 hs.2)
 .exact jB
 .exact eV (iV _ _)
 .exact eV (iV _ _)
 .exact hb
 .exact jB
def Rr{a b:Kn}(ha:a.wf)(hb:b.wf)(op w:Int):(IJ op w a b).wf:=by
 have h1:=jA ha w;have h2:=jA hb w;unfold IJ;repeat' split
 .exact tS (fc _ _ _ _ h1.1.1 h1.1.2 h2.1.1 h2.1.2)
 .exact jA (amG h1 h2 _ _) _
 .exact jB
def Bk.set{w:World}{t:TypeId}(h:Bk w b cs t)(j:Nat)(v:Value):Bk (w.setCell ⟨b,j,ZD⟩ v) b (cs.setIfInBounds j v) t:=heap_setCell_same w b j cs t v h
def Bk.off{w:World}{t:TypeId}(h:Bk w b cs t)(c j:Nat)(v:Value)(Bg:c≠b):Bk (w.setCell ⟨c,j,ZD⟩ v) b cs t:=by unfold Bk at h ⊢;rw[heap_setCell_other w ⟨c,j,ZD⟩ b v (fun e=>Bg e.symm)];exact h
def ah6:∀n:Fin 256,Go.Lib.len8 (n.val:Int)=(aA n.val:Int):=by decide +kernel
def ajz{c:Nat}(h1:2 ^ c<=n)(h2:n<2 ^ (c+1)):aA n=c+1:=by
 have h3:=gF h2;rcases bn (aA n) (c+1)with h|h
 .have h4:=rD n;have h5:2 ^ aA n<=2 ^ c:=YY Fn Fn;omega
 .exact Fn
def amu{k:Nat}(h:2 ^ k<=n):aA n=k+aA (n / 2 ^ k):=by
 have hp:0<2 ^ k:=Nat.pow_pos Fn;have h0:n / 2 ^ k≠0:=by have:=Nat.div_pos h hp;omega
 have h1:=ajy h0;have h2:=rD (n / 2 ^ k);obtain⟨c,hc⟩:∃c,aA (n / 2 ^ k)=c+1:=by
  have:aA (n / 2 ^ k)≠0:=by intro h;rw[h]at h2;simp at h2;omega
  exact⟨aA (n / 2 ^ k)-1,by omega⟩
 rw[hc]at h1 h2 ⊢;have e1:2 ^ (k+c)<=n:=by rw[Nat.pow_add];have:=Nat.mul_le_mul_left (2 ^ k) h1;have h3:=Nat.mul_div_le n (2 ^ k);simp only[Nat.add_sub_cancel]at this;omega
 have e2:n<2 ^ (k+c+1):=by rw[Nat.add_assoc,Nat.pow_add];have h3:=Nat.lt_mul_div_succ n hp;have:=Nat.mul_le_mul_left (2 ^ k) (show n / 2 ^ k+1<=2 ^ (c+1) by omega);omega
 rw[ajz e1 e2];omega
def dW(h0:0<=x)(h1:x<256):Go.Lib.len8 x=(aA x.toNat:Int)/\aA x.toNat<=8:=by have:=ah6 ⟨x.toNat,by omega⟩;have e:((x.toNat:Nat):Int)=x:=Fn;simp only[e]at this;exact⟨this,gF Fn⟩
def gL{i:Int}(h0:0<=i)(h1:i<256)(h2:i.toNat<Go.Lib.len8tab.size):(((Go.Lib.len8tab[i.toNat]'h2).toNat:Nat):Int)=Go.Lib.len8 i:=by simp only[Go.Lib.len8,ByteArray.getElem?_lt' _ _ h2,Option.getD_some]
def vN(h0:0<=x)(h1:x<256):ZG .u8 x=x:=by rw[show IntKind.u8.wrap x=x % 256 from by simp[IntKind.wrap,YS,ZQ]];omega
def fF(k:Nat)(h0:(2:Int) ^ k<=x):aA x.toNat=k+aA (x / 2 ^ k).toNat:=by
 have e:((2:Int) ^ k)=((2 ^ k:Nat):Int):=by simp
 rw[e]at h0 ⊢;obtain⟨n,rfl⟩:∃n:Nat,x=n:=⟨x.toNat,by have:=Nat.pow_pos (n:=k) (show 0<2 by omega);omega⟩
 rw[amu (n:=(n:Int).toNat) (k:=k) Fn];congr 1
def au0(x:Int)(h0:0<=x)(h1:x<=18446744073709551615)(W w:World)(hx:Ext W w):
  Calls ZF 133 #[.int .u64 x] w fun e w'=>e=.returned (.int .i64 (aA x.toNat))/\Ext W w':=by
 obtain⟨r,hr⟩:∃r,aA x.toNat=r:=⟨_,rfl⟩
 rw[hr];have HR:=BX hr;clear hr;by_cases c0:4294967296<=x
 .by_cases c1:65536<=(x / 4294967296)
  .by_cases c2:256<=((x / 4294967296) / 65536)
   .have q0:0<=(((x / 4294967296) / 65536) / 256):=by omega
    have q1:(((x / 4294967296) / 65536) / 256)<256:=Fn;have e4:=vN q0 q1;have E:=BX (dW q0 q1);have l0:=fF (x:=x) 32 Fn;simp only[Int.reducePow]at l0;have L0:=BX l0;clear l0;have l1:=fF (x:=(x / 4294967296)) 16 Fn;simp only[Int.reducePow]at l1;have L1:=BX l1;clear l1;have l2:=fF (x:=((x / 4294967296) / 65536)) 8 Fn;simp only[Int.reducePow]at l2;have L2:=BX l2;clear l2;have hN:Hid (r=32+(16+(8+(aA (((x / 4294967296) / 65536) / 256).toNat)))):=BX (by rw[<-HR.out,L0.out,L1.out,L2.out])
    as_aux_lemma=>
     go_enter func133,ntmps133
     go_wp2_with fail
     all_goals
      go_ret
      refine⟨bD ?_,hx⟩;have hm:=E.out.2;rw[gL q0 q1,E.out.1,hN.out];generalize aA _=m at hm ⊢;clear q0 q1 e4 c0 c1 c2 h0 h1;simp only[wrap64];omega
   .have q0:0<=((x / 4294967296) / 65536):=by omega
    have q1:((x / 4294967296) / 65536)<256:=Fn;have e4:=vN q0 q1;have E:=BX (dW q0 q1);have l0:=fF (x:=x) 32 Fn;simp only[Int.reducePow]at l0;have L0:=BX l0;clear l0;have l1:=fF (x:=(x / 4294967296)) 16 Fn;simp only[Int.reducePow]at l1;have L1:=BX l1;clear l1;have hN:Hid (r=32+(16+(aA ((x / 4294967296) / 65536).toNat))):=BX YF
    as_aux_lemma=>
     go_enter func133,ntmps133
     go_wp2_with fail
     all_goals
      go_ret
      refine⟨bD ?_,hx⟩;have hm:=E.out.2;rw[gL q0 q1,E.out.1,hN.out];generalize aA _=m at hm ⊢;clear q0 q1 e4 c0 c1 c2 h0 h1;simp only[wrap64];omega
  .by_cases c2:256<=(x / 4294967296)
   .have q0:0<=((x / 4294967296) / 256):=by omega
    have q1:((x / 4294967296) / 256)<256:=Fn;have e4:=vN q0 q1;have E:=BX (dW q0 q1);have l0:=fF (x:=x) 32 Fn;simp only[Int.reducePow]at l0;have L0:=BX l0;clear l0;have l1:=fF (x:=(x / 4294967296)) 8 Fn;simp only[Int.reducePow]at l1;have L1:=BX l1;clear l1;have hN:Hid (r=32+(8+(aA ((x / 4294967296) / 256).toNat))):=BX YF
    as_aux_lemma=>
     go_enter func133,ntmps133
     go_wp2_with fail
     all_goals
      go_ret
      refine⟨bD ?_,hx⟩;have hm:=E.out.2;rw[gL q0 q1,E.out.1,hN.out];generalize aA _=m at hm ⊢;clear q0 q1 e4 c0 c1 c2 h0 h1;simp only[wrap64];omega
   .have q0:0<=(x / 4294967296):=by omega
    have q1:(x / 4294967296)<256:=Fn;have e4:=vN q0 q1;have E:=BX (dW q0 q1);have l0:=fF (x:=x) 32 Fn;simp only[Int.reducePow]at l0;have L0:=BX l0;clear l0;have hN:Hid (r=32+(aA (x / 4294967296).toNat)):=BX (by rw[<-HR.out,L0.out])
    as_aux_lemma=>
     go_enter func133,ntmps133
     go_wp2_with fail
     all_goals
      go_ret
      refine⟨bD ?_,hx⟩;have hm:=E.out.2;rw[gL q0 q1,E.out.1,hN.out];generalize aA _=m at hm ⊢;clear q0 q1 e4 c0 c1 c2 h0 h1;simp only[wrap64];omega
 .by_cases c1:65536<=x
  .by_cases c2:256<=(x / 65536)
   .have q0:0<=((x / 65536) / 256):=by omega
    have q1:((x / 65536) / 256)<256:=Fn;have e4:=vN q0 q1;have E:=BX (dW q0 q1);have l0:=fF (x:=x) 16 Fn;simp only[Int.reducePow]at l0;have L0:=BX l0;clear l0;have l1:=fF (x:=(x / 65536)) 8 Fn;simp only[Int.reducePow]at l1;have L1:=BX l1;clear l1;have hN:Hid (r=16+(8+(aA ((x / 65536) / 256).toNat))):=BX YF
    as_aux_lemma=>
     go_enter func133,ntmps133
     go_wp2_with fail
     all_goals
      go_ret
      refine⟨bD ?_,hx⟩;have hm:=E.out.2;rw[gL q0 q1,E.out.1,hN.out];generalize aA _=m at hm ⊢;clear q0 q1 e4 c0 c1 c2 h0 h1;simp only[wrap64];omega
   .have q0:0<=(x / 65536):=by omega
    have q1:(x / 65536)<256:=Fn;have e4:=vN q0 q1;have E:=BX (dW q0 q1);have l0:=fF (x:=x) 16 Fn;simp only[Int.reducePow]at l0;have L0:=BX l0;clear l0;have hN:Hid (r=16+(aA (x / 65536).toNat)):=BX (by rw[<-HR.out,L0.out])
    as_aux_lemma=>
     go_enter func133,ntmps133
     go_wp2_with fail
     all_goals
      go_ret
      refine⟨bD ?_,hx⟩;have hm:=E.out.2;rw[gL q0 q1,E.out.1,hN.out];generalize aA _=m at hm ⊢;clear q0 q1 e4 c0 c1 c2 h0 h1;simp only[wrap64];omega
  .by_cases c2:256<=x
   .have q0:0<=(x / 256):=by omega
    have q1:(x / 256)<256:=Fn;have e4:=vN q0 q1;have E:=BX (dW q0 q1);have l0:=fF (x:=x) 8 Fn;simp only[Int.reducePow]at l0;have L0:=BX l0;clear l0;have hN:Hid (r=8+(aA (x / 256).toNat)):=BX (by rw[<-HR.out,L0.out])
    as_aux_lemma=>
     go_enter func133,ntmps133
     go_wp2_with fail
     all_goals
      go_ret
      refine⟨bD ?_,hx⟩;have hm:=E.out.2;rw[gL q0 q1,E.out.1,hN.out];generalize aA _=m at hm ⊢;clear q0 q1 e4 c0 c1 c2 h0 h1;simp only[wrap64];omega
   .have q0:0<=x:=by omega
    have q1:x<256:=Fn;have e4:=vN q0 q1;have E:=BX (dW q0 q1);have hN:Hid (r=aA x.toNat):=BX (by rw[<-HR.out])
    as_aux_lemma=>
     go_enter func133,ntmps133
     go_wp2_with fail
     all_goals
      go_ret
      refine⟨bD ?_,hx⟩;have hm:=E.out.2;rw[gL q0 q1,E.out.1,hN.out];generalize aA _=m at hm ⊢;clear q0 q1 e4 c0 c1 c2 h0 h1;simp only[wrap64];omega
def Wx(x:Int)(h0:0<=x)(h1:x<=18446744073709551615)(W w:World)(hx:Ext W w):
  Calls ZF 135 #[.int .u64 x] w fun e w'=>e=.returned (.int .i64 (64-aA x.toNat))/\Ext W w':=by
 have hb:aA x.toNat<=64:=gF Fn;obtain⟨r,hr⟩:∃r,aA x.toNat=r:=⟨_,rfl⟩
 have HR:=BX hr;rw[hr]at hb ⊢;clear hr
 go_enter func135,ntmps135
 go_wp2_with (first
  |(go_at_call 133;(with_reducible refine(au0 x h0 h1 W _ (by assumption)).mono ?_);rintro e w' ⟨rfl,ER⟩;rw[HR.out])
  |fail)
 go_ret
 refine⟨bD ?_,by assumption⟩
 all_goals (first|(simp only[wrap64];done)|(simp only[wrap64];omega)|omega)
def BT(op l:Int):Bool:=(decide (0<=op)&&decide (op<=12))&&iJ l
def tY(h:0<=x/\x<=18446744073709551615):Aj .u64 x=ZB:=by rw[bl];simpa[IntKind.min,IntKind.max,ZQ,YS]using h
def aiD(h : -9223372036854775808<=x/\x<=9223372036854775807):Aj .i64 x=ZB:=by rw[bl];simpa[IntKind.min,IntKind.max,ZQ,YS]using h
def kX{q:Prop}(k:q2)(h:p->q=q2:=by intro e;(try simp only[e,bW,-eq_self]);rfl):p->q:=fun e=>(h e).symm▸k
def apB:List (Nat×TI):=[(2,DA),
 (43,hJ),
 (57,lm)]
def ae2:∀t i,(t,i)∈apB->TIok ZF t i:=bK Ch Ch (by kernel_rfl)
def c_add64:Cd:=⟨173,[.one (.int .u64),.one (.int .u64),.one (.p .u64 0)],[.one (.int .u64),.one (.int .u64)],rdZ fun x=>rdZ fun y _=>[.z ((x+y) % 18446744073709551616),.z ((x+y) / 18446744073709551616)],T0⟩
def ak3(x:Int)(hx:Aj .u64 x=ZB)(y:Int)(hy:Aj .u64 y=ZB):(∀w,(callFunc 173 #[.int .u64 x,.int .u64 y,.int .u64 0]).run ZF w=.ok (.value (.tuple #[.int .u64 ((x+y) % 18446744073709551616),.int .u64 ((x+y) / 18446744073709551616)])) w)/\iK (.tuple #[.int .u64 ((x+y) % 18446744073709551616),.int .u64 ((x+y) / 18446744073709551616)])=ZB:=by
 have gx:=dr hx;have gy:=dr hy;refine⟨fun w=> ?_,?_⟩
 .rw[run_callFunc_extern func173 (by kernel_rfl) (by kernel_rfl) (by kernel_rfl) (e:=add64Entry) (by kernel_rfl),run_add64 x y 0 gx.1 gy.1 Fn Fn];simp only[Result.andThen,Int.add_zero]
 .have h1:Aj .u64 ((x+y) % 18446744073709551616)=ZB:=tY Fn;have h2:Aj .u64 ((x+y) / 18446744073709551616)=ZB:=tY Fn;simp[iK,gP,gY,h1,h2]
def arx:c_add64.Ok ZF:=fun hF hP=>by
 refine SmOk.pure (s:=c_add64.m _) hF rfl rfl fun xs vals w h=> ?_;obtain⟨_,_,_,rfl,⟨x0,rfl,rfl,Dr⟩,h⟩:=h;obtain⟨_,_,_,rfl,⟨x1,rfl,rfl,DY⟩,h⟩:=h;obtain⟨_,_,_,rfl,⟨rfl,rfl⟩,h⟩:=h;obtain⟨rfl,rfl⟩:=h;have q:=ak3 x0 Dr x1 DY;refine⟨_,.inl (q.1 w),?_,fun ρ v0 nid j he=> ?_⟩
 .have q2:=q.2;simp[iK,gP,gY]at q2;simp[c_add64,Cd.m,tp,rdZ,rdB,rdL,ZO,YW,Sh.cks,YO,YN,ZM,b2i_one,ib,q2]
 .simp only[c_add64,Cd.m,tp,rdZ,rdB,rdL,ZO,YW,Sh.cks,YO,YN,ZM,b2i_one,eqs,dI,dB,cH,lu,be,ZP,ZE,and_true]at he;simp[c_add64,Cd.m,tp,rdZ,rdB,rdL,ZO,YW,Sh.cks,YO,YN,ZM,b2i_one,gN,bM,aL,V.den,C.den,Ad,Bt,ce,E.I,E.B,he]
def c_len:Cd:=⟨133,[.one (.int .u64)],[.one (.int .i64)],rdZ fun x _=>[.z ((aA x.toNat:Int))],T0⟩
def asY(x:Int)(hx:Aj .u64 x=ZB):(∀w,Calls ZF 133 #[.int .u64 x] w fun e w'=>e=.returned (.int .i64 ((aA x.toNat:Int)))/\Ext w w')/\iK (.int .i64 ((aA x.toNat:Int)))=ZB:=by have g:=dr hx;have hb:aA x.toNat<=64:=gF Fn;have h:Aj .i64 (aA x.toNat:Int)=ZB:=aiD Fn;exact⟨fun w=>au0 x g.1 g.2 w w (Ext.refl w),h⟩
def avR:c_len.Ok ZF:=fun hF hP=>by
 refine SmOk.pure (s:=c_len.m _) hF rfl rfl fun xs vals w h=> ?_;obtain⟨_,_,_,rfl,⟨x0,rfl,rfl,Dr⟩,h⟩:=h;obtain⟨rfl,rfl⟩:=h;have q:=asY x0 Dr;refine⟨_,.inr ⟨ez func133 (by kernel_rfl) (by kernel_rfl) _ w,q.1 w⟩,?_,fun ρ v0 nid j he=> ?_⟩
 .have q2:=q.2;simp[iK,gP,gY]at q2;simp[c_len,Cd.m,tp,rdZ,rdB,rdL,ZO,YW,Sh.cks,YO,YN,ZM,b2i_one,ib,q2]
 .simp only[c_len,Cd.m,tp,rdZ,rdB,rdL,ZO,YW,Sh.cks,YO,YN,ZM,b2i_one,eqs,dI,dB,cH,lu,be,ZP,ZE,and_true]at he;simp[c_len,Cd.m,tp,rdZ,rdB,rdL,ZO,YW,Sh.cks,YO,YN,ZM,b2i_one,gN,bM,aL,V.den,C.den,Ad,Bt,ce,E.I,E.B,he]
def c_lz:Cd:=⟨135,[.one (.int .u64)],[.one (.int .i64)],rdZ fun x _=>[.z (64-(aA x.toNat:Int))],T0⟩
def avw(x:Int)(hx:Aj .u64 x=ZB):(∀w,Calls ZF 135 #[.int .u64 x] w fun e w'=>e=.returned (.int .i64 (64-(aA x.toNat:Int)))/\Ext w w')/\iK (.int .i64 (64-(aA x.toNat:Int)))=ZB:=by have g:=dr hx;have hb:aA x.toNat<=64:=gF Fn;have h:Aj .i64 (64-(aA x.toNat:Int))=ZB:=aiD Fn;exact⟨fun w=>Wx x g.1 g.2 w w (Ext.refl w),h⟩
def QR:c_lz.Ok ZF:=fun hF hP=>by
 refine SmOk.pure (s:=c_lz.m _) hF rfl rfl fun xs vals w h=> ?_;obtain⟨_,_,_,rfl,⟨x0,rfl,rfl,Dr⟩,h⟩:=h;obtain⟨rfl,rfl⟩:=h;have q:=avw x0 Dr;refine⟨_,.inr ⟨ez func135 (by kernel_rfl) (by kernel_rfl) _ w,q.1 w⟩,?_,fun ρ v0 nid j he=> ?_⟩
 .have q2:=q.2;simp[iK,gP,gY]at q2;simp[c_lz,Cd.m,tp,rdZ,rdB,rdL,ZO,YW,Sh.cks,YO,YN,ZM,b2i_one,ib,q2]
 .simp only[c_lz,Cd.m,tp,rdZ,rdB,rdL,ZO,YW,Sh.cks,YO,YN,ZM,b2i_one,eqs,dI,dB,cH,lu,be,ZP,ZE,and_true]at he;simp[c_lz,Cd.m,tp,rdZ,rdB,rdL,ZO,YW,Sh.cks,YO,YN,ZM,b2i_one,gN,bM,aL,V.den,C.den,Ad,Bt,ce,E.I,E.B,he]
def c_sum:Cd:=⟨134,[.agg kRg,.agg kRg,.one .bool],[.agg kRg],rd_Rg fun a=>rd_Rg fun b=>rdB fun t _=>d_Rg (BW t a b) [],T0⟩
def Oh:Tr:=(.u (.cons (.f .add .u64 (.w 0) (.w 4)) (.cons (.w 13) (.vs 11 2 .nil))))
def Og:Tr:=(.u (.cons (.f .sub .u64 (.w 0) (.w 5)) (.cons (.f .sub .u64 (.w 1) (.w 4)) (.vs 11 2 .nil))))
def am7:Tr:=
(.call 0 (kRg) .nil 9
(.br (.s 8)
(.br (.lt (.w 0) (.w 5))
(.call 3 [.int .i64,.bool] (.cons (.w 2) (.cons (.w 7) .nil)) 13
(.call 3 [.int .i64,.bool] (.cons (.w 3) (.cons (.w 6) .nil)) 15
(.br (.s 14)
(.br (.s 16)
(.u (.vs 9 2 (.cons (.w 13) (.cons (.w 15) .nil))))
(.u (.vs 9 4 .nil)))
(.u (.vs 9 4 .nil)))))
(.call 3 [.int .i64,.bool] (.cons (.w 2) (.cons (.w 7) .nil)) 13
(.call 3 [.int .i64,.bool] (.cons (.w 3) (.cons (.w 6) .nil)) 15
(.br (.s 14)
(.br (.s 16)
(.u (.cons (.f .sub .u64 (.w 0) (.w 5)) (.cons (.f .sub .u64 (.w 1) (.w 4)) (.cons (.w 13) (.cons (.w 15) .nil)))))
 Og)
 Og))))
(.call 1 [.int .u64,.int .u64] (.cons (.w 1) (.cons (.w 5) .nil)) 13
(.br (.eq (.w 14) (.p 0))
(.call 2 [.int .i64,.bool] (.cons (.w 2) (.cons (.w 6) .nil)) 15
(.call 2 [.int .i64,.bool] (.cons (.w 3) (.cons (.w 7) .nil)) 17
(.br (.s 16)
(.br (.s 18)
(.u (.cons (.f .add .u64 (.w 0) (.w 4)) (.cons (.w 13) (.cons (.w 15) (.cons (.w 17) .nil)))))
 Oh)
 Oh)))
(.call 2 [.int .i64,.bool] (.cons (.w 2) (.cons (.w 6) .nil)) 15
(.call 2 [.int .i64,.bool] (.cons (.w 3) (.cons (.w 7) .nil)) 17
(.br (.s 16)
(.br (.s 18)
(.u (.vs 9 2 (.cons (.w 15) (.cons (.w 17) .nil))))
(.u (.vs 9 4 .nil)))
(.u (.vs 9 4 .nil)))))))))
def avP:c_sum.Ok ZF:=
 A4 am7 (v_Rg (v_Rg [.bool])) ae2 (Aq oh<|Aq arx<|Aq at6<|Aq arp AR) func134<|dG fun a ha=>dG fun b hb=>fun t hp ρ g=>by
 simp only[AP,AT,ZE]at g;simp only[am7,Og,Oh,c_all,c_add64,c_plus,c_minus,c_sum,AP,Am,YI,ZE,-eq_self,bW,g];refine kX ?_;apply aI<;>intro c0;apply aI<;>intro c1;refine kX ?_;refine kX ?_;apply aI<;>intro c2;apply aI<;>intro c3
 ·(subst c0;exact EU (tq c1).1 (tq c1).2 (RX c2 c3).1 (RX c2 c3).2)
 ·(subst c0;exact EU (tq c1).1 (tq c1).2 (oM (.inr c3)).1 (oM (.inr c3)).2)
 ·(subst c0;exact EU (tq c1).1 (tq c1).2 (oM (.inl c2)).1 (oM (.inl c2)).2)
 refine kX ?_;refine kX ?_;apply aI<;>intro c4;apply aI<;>intro c5
 ·(subst c0;exact EU (tj c1).1 (tj c1).2 (RX c4 c5).1 (RX c4 c5).2)
 ·(subst c0;exact EU (tj c1).1 (tj c1).2 (oM (.inr c5)).1 (oM (.inr c5)).2)
 ·(subst c0;exact EU (tj c1).1 (tj c1).2 (oM (.inl c4)).1 (oM (.inl c4)).2)
 refine kX ?_;apply aI<;>intro c6;refine kX ?_;refine kX ?_;apply aI<;>intro c7;apply aI<;>intro c8
 ·(subst c0;exact EU (sd ha hb c6).1 (sd ha hb c6).2 (Rq c7 c8).1 (Rq c7 c8).2)
 ·(subst c0;exact EU (sd ha hb c6).1 (sd ha hb c6).2 (oB (.inr c8)).1 (oB (.inr c8)).2)
 ·(subst c0;exact EU (sd ha hb c6).1 (sd ha hb c6).2 (oB (.inl c7)).1 (oB (.inl c7)).2)
 refine kX ?_;refine kX ?_;apply aI<;>intro c9;apply aI<;>intro CA
 ·(subst c0;exact EU (se ha hb c6).1 (se ha hb c6).2 (Rq c9 CA).1 (Rq c9 CA).2)
 ·(subst c0;exact EU (se ha hb c6).1 (se ha hb c6).2 (oB (.inr CA)).1 (oB (.inr CA)).2)
 ·(subst c0;exact EU (se ha hb c6).1 (se ha hb c6).2 (oB (.inl c9)).1 (oB (.inl c9)).2)
def cR{q:Prop}(k:q2)(h:p->q=q2:=by intro e;(try simp only[e,bW,-eq_self]);rfl):p->q:=fun e=>(h e).symm▸k
def apA:List (Nat×TI):=[(2,DA),
 (3,C1),
 (39,hZ),
 (43,hJ),
 (57,lm),
 (110,Rz)]
def ae1:∀t i,(t,i)∈apA->TIok ZF t i:=bK Ch Ch (by kernel_rfl)
def c_do:Cd:=⟨98,[.one (.int .i8),.agg kRg,.agg kRg],[.agg kRg],rdZ fun op=>rd_Rg fun a=>rd_Rg fun b _=>d_Rg (DT op a b) [],T0⟩
def LB:Tr:=(.call 6 (kRg) (.vs 11 4 .nil) 18
(.u (.vs 18 4 .nil)))
def Ol:E:=(.cons (.f .sub .u64 (.f .shl .u64 (.p 1) (.w 17)) (.p 1)) (.vs 13 2 .nil))
def Oj:Tr:=(.call 6 (kRg) (.cons (.w 11) (.cons (.w 2) (.vs 13 2 .nil))) 18
(.u (.vs 18 4 .nil)))
def Oi:Tr:=(.call 5 (kRg) (.vs 1 8 (.j (.eq (.w 0) (.p 1)) .nil)) 18
(.call 6 (kRg) (.vs 18 4 .nil) 22
(.u (.vs 22 4 .nil))))
def as1:Tr:=
(.call 0 [.bool] (.vs 1 4 .nil) 9
(.br (.s 9)
(.call 0 [.bool] (.vs 5 4 .nil) 10
(.br (.s 10)
(.call 1 (kRg) .nil 11
(.call 2 [.int .u64,.bool] (.vs 5 4 .nil) 15
(.call 3 [.int .i64] (.cons (.mx (.w 2) (.w 6)) .nil) 17
(.br (.lt (.w 17) (.p 0))
.panic
(.br (.eq (.w 0) (.p 11))
(.call 6 (kRg) (.vs 5 4 .nil) 18
(.u (.vs 18 4 .nil)))
(.br (.eq (.w 0) (.p 0))
 Oi
(.br (.eq (.w 0) (.p 1))
 Oi
(.br (.eq (.w 0) (.p 5))
(.call 6 (kRg) (.cons (.w 11) (.cons (.mn (.w 2) (.w 6)) (.vs 13 2 .nil))) 18
(.u (.vs 18 4 .nil)))
(.br (.eq (.w 0) (.p 4))
(.call 6 (kRg) (.cons (.mx (.w 1) (.w 5)) Ol) 18
(.u (.vs 18 4 .nil)))
(.br (.eq (.w 0) (.p 10))
(.call 6 (kRg) (.cons (.w 11) Ol) 18
(.u (.vs 18 4 .nil)))
(.br (.eq (.w 0) (.p 3))
(.br (.lt (.p 0) (.w 5))
(.br (.eq (.w 6) (.p 0))
.panic
(.br (.eq (.w 5) (.p 0))
.panic
(.call 6 (kRg) (.cons (.f .quo .u64 (.w 1) (.w 6)) (.cons (.f .quo .u64 (.w 2) (.w 5)) (.vs 13 2 .nil))) 18
(.u (.vs 18 4 .nil)))))
 Oj)
(.br (.eq (.w 0) (.p 9))
(.br (.lt (.p 0) (.w 5))
(.call 6 (kRg) (.cons (.w 11) (.cons (.mn (.w 2) (.f .sub .u64 (.w 6) (.p 1))) (.vs 13 2 .nil))) 18
(.u (.vs 18 4 .nil)))
 Oj)
(.br (.eq (.w 0) (.p 7))
(.br (.s 16)
(.call 6 (kRg) (.cons (.f .shr .u64 (.w 1) (.f .and .u64 (.w 15) (.p 63))) (.cons (.f .shr .u64 (.w 2) (.f .and .u64 (.w 15) (.p 63))) (.vs 13 2 .nil))) 18
(.u (.vs 18 4 .nil)))
 LB)
(.br (.eq (.w 0) (.p 6))
(.br (.s 16)
(.call 4 [.int .i64] (.cons (.w 2) .nil) 18
(.br (.lt (.w 18) (.F .i64 (.f .and .u64 (.w 15) (.p 63))))
(.call 6 (kRg) (.vs 11 4 .nil) 19
(.u (.vs 19 4 .nil)))
(.call 6 (kRg) (.cons (.f .shl .u64 (.w 1) (.f .and .u64 (.w 15) (.p 63))) (.cons (.f .shl .u64 (.w 2) (.f .and .u64 (.w 15) (.p 63))) (.vs 13 2 .nil))) 19
(.u (.vs 19 4 .nil)))))
 LB)
 LB))))))))))))))
(.call 1 (kRg) .nil 11
(.u (.vs 11 4 .nil)))))
(.call 1 (kRg) .nil 10
(.u (.vs 10 4 .nil)))))
def QQ:c_do.Ok ZF:=
 A4 as1 (.int .i8::v_Rg (v_Rg [])) ae1 (Aq xM<|Aq oh<|Aq vf<|Aq avR<|Aq QR<|Aq avP<|Aq anL AR) func98<|fun op Ab=>dG fun a ha=>dG fun b hb hp ρ g=>by
 simp only[AP,AT,ZE]at g;simp only[as1,Oi,Oj,Ol,LB,c_may,c_all,c_single,c_len,c_lz,c_sum,c_nard,c_do,AP,Am,YI,ZE,-eq_self,bW,g];refine cR ?_;apply aI<;>intro c0;refine cR ?_;apply aI<;>intro c1;refine cR ?_;refine cR ?_;refine cR ?_;apply aI<;>intro c2
 .exact ak (Ae c2) Fn
 apply aI<;>intro c3;refine cR ?_
 .exact eP (awH ha hb c0 c1 c3)
 apply aI<;>intro c4;refine cR ?_;refine cR ?_
 .exact eP (WU ha hb c0 c1 c4)
 apply aI<;>intro c5;refine cR ?_;refine cR ?_
 .exact eP (WV ha hb c0 c1 c5)
 apply aI<;>intro c6;refine cR ?_
 .exact eP (WY ha hb c0 c1 c6)
 apply aI<;>intro c7;refine cR ?_
 .exact eP (WX ha hb c0 c1 c7)
 apply aI<;>intro c8;refine cR ?_
 .exact eP (awI ha hb c0 c1 c8)
 apply aI<;>intro c9;apply aI<;>intro CA;apply aI<;>intro DD
 ·(have hm:=(dj b).1 c1;have h1:=Ae CA;have h2:=Bd DD;omega)
 apply aI<;>intro Cp
 ·(have hm:=(dj b).1 c1;have h1:=Ae CA;have h2:=Bd Cp;omega)
 refine cR ?_
 .exact eP (WW ha hb c0 c1 c9 CA)
 refine cR ?_
 .exact eP (awG ha hb c0 c1 c9 CA)
 apply aI<;>intro C9;apply aI<;>intro DE;refine cR ?_
 .exact eP (W2 ha hb c0 c1 C9 DE)
 refine cR ?_
 .exact eP (awC ha hb c0 c1 C9 DE)
 apply aI<;>intro DI;apply aI<;>intro Ew;refine cR ?_
 .exact eP (W1 ha hb c0 c1 DI Ew)
 refine cR ?_
 .exact eP (awD ha hb c0 c1 DI Ew)
 apply aI<;>intro Ec;apply aI<;>intro DJ;refine cR ?_;apply aI<;>intro D7;refine cR ?_
 .exact eP (awE ha hb c0 c1 Ec DJ D7)
 refine cR ?_
 .exact eP (WZ ha hb c0 c1 Ec DJ D7)
 refine cR ?_
 .exact eP (awF ha hb c0 c1 Ec DJ)
 refine cR ?_
 .exact eP (W3 ha hb c0 c1 c3 c4 c5 c6 c7 c8 c9 C9 DI Ec)
 refine cR ?_
 .exact eP (aob (.inr c1))
 refine cR ?_
 .exact eP (aob (.inl c0))
section
variable {a b:Rg}(ha:a.ok)(hb:b.ok)
include ha hb
theorem awh(h:(!(((2:Int)==2)&&(b.ul==18446744073709551615)))=ZC):Bu 2 a b=ZC:=by have h2:b.ul=18446744073709551615:=Xw;simp[Bu,h2]
theorem awp(h:(!(((2:Int)==2)&&(b.ul==18446744073709551615)))=ZB):Bu 2 a b=ZB:=by have h2:b.ul≠18446744073709551615:=Xw;simp[Bu,h2]
theorem awc(h:(!(((2:Int)==2)&&(b.ul==18446744073709551615)))=ZB):(⟨if((2:Int)==2)=ZB/\(b.ul==18446744073709551615)=ZB then a.ul else max a.ul (if((2:Int)==2)=ZB then IntKind.u64.wrap (b.ul+1)else b.ul),a.uh,a.sl,a.sh⟩:Rg)=BQ 2 a b:=by have h2:b.ul≠18446744073709551615:=Xw;have wa:=Rg.wf_of ha;have wb:=Rg.wf_of hb;obtain⟨⟨a0,a1⟩,⟨a2,a3⟩,⟨a4,a5⟩,a6,a7⟩:=wa;obtain⟨⟨b0,b1⟩,⟨b2,b3⟩,⟨b4,b5⟩,b6,b7⟩:=wb;have h3:ZG .u64 (b.ul+1)=b.ul+1:=Yy;simp[BQ,Rg.ext_iff,h2,h3]
theorem awo(h:(!(((3:Int)==2)&&(b.ul==18446744073709551615)))=ZB):Bu 3 a b=ZB:=by simp[Bu]
theorem awb(h:(!(((3:Int)==2)&&(b.ul==18446744073709551615)))=ZB):(⟨if((3:Int)==2)=ZB/\(b.ul==18446744073709551615)=ZB then a.ul else max a.ul (if((3:Int)==2)=ZB then IntKind.u64.wrap (b.ul+1)else b.ul),a.uh,a.sl,a.sh⟩:Rg)=BQ 3 a b:=by simp[BQ,Rg.ext_iff]
theorem awg(h:(!(((4:Int)==4)&&(b.uh==0)))=ZC):Bu 4 a b=ZC:=by have h2:b.uh=0:=Xw;simp[Bu,h2]
theorem awn(h:(!(((4:Int)==4)&&(b.uh==0)))=ZB):Bu 4 a b=ZB:=by have h2:b.uh≠0:=Xw;simp[Bu,h2]
theorem awa(h:(!(((4:Int)==4)&&(b.uh==0)))=ZB):(⟨a.ul,if((4:Int)==4)=ZB/\(b.uh==0)=ZB then a.uh else min a.uh (if((4:Int)==4)=ZB then IntKind.u64.wrap (b.uh-1)else b.uh),a.sl,a.sh⟩:Rg)=BQ 4 a b:=by have h2:b.uh≠0:=Xw;have wa:=Rg.wf_of ha;have wb:=Rg.wf_of hb;obtain⟨⟨a0,a1⟩,⟨a2,a3⟩,⟨a4,a5⟩,a6,a7⟩:=wa;obtain⟨⟨b0,b1⟩,⟨b2,b3⟩,⟨b4,b5⟩,b6,b7⟩:=wb;have h3:ZG .u64 (b.uh-1)=b.uh-1:=Yy;simp[BQ,Rg.ext_iff,h2,h3]
theorem awm(h:(!(((5:Int)==4)&&(b.uh==0)))=ZB):Bu 5 a b=ZB:=by simp[Bu]
theorem av9(h:(!(((5:Int)==4)&&(b.uh==0)))=ZB):(⟨a.ul,if((5:Int)==4)=ZB/\(b.uh==0)=ZB then a.uh else min a.uh (if((5:Int)==4)=ZB then IntKind.u64.wrap (b.uh-1)else b.uh),a.sl,a.sh⟩:Rg)=BQ 5 a b:=by simp[BQ,Rg.ext_iff]
theorem awf(h:(!(((6:Int)==6)&&(b.sl==9223372036854775807)))=ZC):Bu 6 a b=ZC:=by have h2:b.sl=9223372036854775807:=Xw;simp[Bu,h2]
theorem awl(h:(!(((6:Int)==6)&&(b.sl==9223372036854775807)))=ZB):Bu 6 a b=ZB:=by have h2:b.sl≠9223372036854775807:=Xw;simp[Bu,h2]
theorem av8(h:(!(((6:Int)==6)&&(b.sl==9223372036854775807)))=ZB):(⟨a.ul,a.uh,if((6:Int)==6)=ZB/\(b.sl==9223372036854775807)=ZB then a.sl else max a.sl (if((6:Int)==6)=ZB then IntKind.i64.wrap (b.sl+1)else b.sl),a.sh⟩:Rg)=BQ 6 a b:=by
 have h2:b.sl≠9223372036854775807:=Xw;have wa:=Rg.wf_of ha;have wb:=Rg.wf_of hb;obtain⟨⟨a0,a1⟩,⟨a2,a3⟩,⟨a4,a5⟩,a6,a7⟩:=wa;obtain⟨⟨b0,b1⟩,⟨b2,b3⟩,⟨b4,b5⟩,b6,b7⟩:=wb;have h3:ZG .i64 (b.sl+1)=b.sl+1:=by rw[aK];omega
 simp[BQ,Rg.ext_iff,h2,h3]
theorem awk(h:(!(((7:Int)==6)&&(b.sl==9223372036854775807)))=ZB):Bu 7 a b=ZB:=by simp[Bu]
theorem av7(h:(!(((7:Int)==6)&&(b.sl==9223372036854775807)))=ZB):(⟨a.ul,a.uh,if((7:Int)==6)=ZB/\(b.sl==9223372036854775807)=ZB then a.sl else max a.sl (if((7:Int)==6)=ZB then IntKind.i64.wrap (b.sl+1)else b.sl),a.sh⟩:Rg)=BQ 7 a b:=by simp[BQ,Rg.ext_iff]
theorem awe(h:(!(((8:Int)==8)&&(b.sh==(-9223372036854775808))))=ZC):Bu 8 a b=ZC:=by have h2:b.sh=(-9223372036854775808):=Xw;simp[Bu,h2]
theorem awj(h:(!(((8:Int)==8)&&(b.sh==(-9223372036854775808))))=ZB):Bu 8 a b=ZB:=by have h2:b.sh≠(-9223372036854775808):=Xw;simp[Bu,h2]
theorem av6(h:(!(((8:Int)==8)&&(b.sh==(-9223372036854775808))))=ZB):(⟨a.ul,a.uh,a.sl,if((8:Int)==8)=ZB/\(b.sh==(-9223372036854775808))=ZB then a.sh else min a.sh (if((8:Int)==8)=ZB then IntKind.i64.wrap (b.sh-1)else b.sh)⟩:Rg)=BQ 8 a b:=by
 have h2:b.sh≠(-9223372036854775808):=Xw;have wa:=Rg.wf_of ha;have wb:=Rg.wf_of hb;obtain⟨⟨a0,a1⟩,⟨a2,a3⟩,⟨a4,a5⟩,a6,a7⟩:=wa;obtain⟨⟨b0,b1⟩,⟨b2,b3⟩,⟨b4,b5⟩,b6,b7⟩:=wb;have h3:ZG .i64 (b.sh-1)=b.sh-1:=by rw[aK];omega
 simp[BQ,Rg.ext_iff,h2,h3]
theorem awi(h:(!(((9:Int)==8)&&(b.sh==(-9223372036854775808))))=ZB):Bu 9 a b=ZB:=by simp[Bu]
theorem av5(h:(!(((9:Int)==8)&&(b.sh==(-9223372036854775808))))=ZB):(⟨a.ul,a.uh,a.sl,if((9:Int)==8)=ZB/\(b.sh==(-9223372036854775808))=ZB then a.sh else min a.sh (if((9:Int)==8)=ZB then IntKind.i64.wrap (b.sh-1)else b.sh)⟩:Rg)=BQ 9 a b:=by simp[BQ,Rg.ext_iff]
theorem auy:Bu 10 a b=ZB:=by simp[Bu]
theorem auu:a=BQ 10 a b:=by simp[BQ]
theorem auw(h:eH b=ZC):Bu 1 a b=ZB:=by simp[Bu,h]
theorem aut(h:eH b=ZC):a=BQ 1 a b:=by simp[BQ,h]
theorem auv(h:eH b=ZB)(hu:(!((a.ul==aE b)&&(a.uh==aE b)))=ZC\/(!((a.sl==ZG .i64 (aE b))&&(a.sh==ZG .i64 (aE b))))=ZC):Bu 1 a b=ZC:=by
 have hs:aE b=b.ul:=YB;have ht:ZG .i64 b.ul=BY b.ul:=(dd _).symm;rw[hs,ht]at hu;simp only[Bu,h,aW];rcases hu with hu|hu
 .simp at hu;simp[hu]
 .simp at hu;simp[hu]
theorem awq(h:eH b=ZB)(hu:(!((a.ul==aE b)&&(a.uh==aE b)))=ZB)(hv:(!((a.sl==ZG .i64 (aE b))&&(a.sh==ZG .i64 (aE b))))=ZB):Bu 1 a b=ZB:=by have hs:aE b=b.ul:=YB;have ht:ZG .i64 b.ul=BY b.ul:=(dd _).symm;rw[hs]at hu;rw[hs,ht]at hv;simp only[Bu,h,aW];simp at hu hv ⊢;exact⟨hu,hv⟩
theorem awd(ma:AS a=ZB)(h:eH b=ZB)(hu:(!((a.ul==aE b)&&(a.uh==aE b)))=ZB)(hv:(!((a.sl==ZG .i64 (aE b))&&(a.sh==ZG .i64 (aE b))))=ZB):(⟨if(a.ul==aE b)=ZB/\(a.uh==aE b)=ZC then IntKind.u64.wrap (a.ul+1)else a.ul,if(a.ul==aE b)=ZC/\(a.uh==aE b)=ZB then IntKind.u64.wrap (a.uh-1)else a.uh,if(a.sl==ZG .i64 (aE b))=ZB/\(a.sh==ZG .i64 (aE b))=ZC then IntKind.i64.wrap (a.sl+1)else a.sl,if(a.sl==ZG .i64 (aE b))=ZC/\(a.sh==ZG .i64 (aE b))=ZB then IntKind.i64.wrap (a.sh-1)else a.sh⟩:Rg)=BQ 1 a b:=by have hs:aE b=b.ul:=YB;have ht:ZG .i64 b.ul=BY b.ul:=(dd _).symm;rw[hs]at hu;rw[hs,ht]at hv;rw[hs,ht];have wa:=Rg.wf_of ha;have wb:=Rg.wf_of hb;obtain⟨⟨a0,a1⟩,⟨a2,a3⟩,⟨a4,a5⟩,a6,a7⟩:=wa;obtain⟨⟨b0,b1⟩,⟨b2,b3⟩,⟨b4,b5⟩,b6,b7⟩:=wb;have sb:=gf b.ul;rw[dj]at ma;simp only[BQ,h,aW,Rg.ext_iff];generalize BY b.ul=t at *;simp only[ZL,Bool.and_eq_false_iff,jq,ne_eq]at hu hv;simp only[cb,jq,ne_eq,bg,aK];refine⟨?_,?_,?_,?_⟩<;>(split<;>(try split)<;>omega)
end
def az{q:Prop}(k:q2)(h:p->q=q2:=by intro e;(try simp only[e,bW,-eq_self]);rfl):p->q:=fun e=>(h e).symm▸k
def ae8:List (Nat×TI):=[(2,DA),
 (39,hZ),
 (43,hJ),
 (57,lm),
 (181,T7),
 (183,T6)]
def fW:∀t i,(t,i)∈ae8->TIok ZF t i:=bK Ch Ch (by kernel_rfl)
def c_bits:Cd:=⟨96,[.one (.int .i8),.one (.int .i8),.one (.int .u64),.one (.int .u64)],[.one (.int .u64),.one (.int .i64)],rdZ fun op=>rdZ fun l=>rdZ fun x=>rdZ fun y _=>[.z (if BT op l=ZB then BI op l x y else 0),.z (if BT op l=ZB then 0 else 2)],T0⟩
def agl(op:Int)(Ab:Aj .i8 op=ZB)(l:Int)(hl:Aj .i8 l=ZB)(x:Int)(hx:Aj .u64 x=ZB)(y:Int)(hy:Aj .u64 y=ZB):(∀w,Calls ZF 96 #[.int .i8 op,.int .i8 l,.int .u64 x,.int .u64 y] w fun e w'=>e=.returned (.tuple #[.int .u64 (if BT op l=ZB then BI op l x y else 0),.int .i64 (if BT op l=ZB then 0 else 2)])/\Ext w w')/\iK (.tuple #[.int .u64 (if BT op l=ZB then BI op l x y else 0),.int .i64 (if BT op l=ZB then 0 else 2)])=ZB:=by
 have gx:=dr hx;have gy:=dr hy;cases hk:BT op l
 .refine⟨fun w=>(auN op l x y w ?_).mono ?_,by simp[iK,gP,gY];decide⟩
  .unfold BT at hk;rw[Bool.and_eq_false_iff,Bool.and_eq_false_iff]at hk;rcases hk with(hk|hk)|hk
   .have:=Af hk;simp;omega
   .have:=Af hk;simp;omega
   .rw[hk];simp
  .rintro e w' ⟨rfl,rfl⟩;exact⟨by simp,Ext.refl _⟩
 .unfold BT at hk;simp only[ne,ax]at hk;have hz:=tY (fc op l x y gx.1 gx.2 gy.1 gy.2);refine⟨fun w=>(auO op l x y w gx.1 gx.2 gy.1 gy.2 hk.1.1 hk.1.2 hk.2).mono ?_,by simp[iK,gP,gY,hz];decide⟩;rintro e w' ⟨rfl,hx⟩;exact⟨by simp,hx⟩
def anR:c_bits.Ok ZF:=fun hF hP=>by
 refine SmOk.pure (s:=c_bits.m _) hF rfl rfl fun xs vals w h=> ?_;obtain⟨_,_,_,rfl,⟨x0,rfl,rfl,Dr⟩,h⟩:=h;obtain⟨_,_,_,rfl,⟨x1,rfl,rfl,DY⟩,h⟩:=h;obtain⟨_,_,_,rfl,⟨x2,rfl,rfl,HT⟩,h⟩:=h;obtain⟨_,_,_,rfl,⟨x3,rfl,rfl,Hc⟩,h⟩:=h;obtain⟨rfl,rfl⟩:=h;have q:=agl x0 Dr x1 DY x2 HT x3 Hc;refine⟨_,.inr ⟨ez func96 (by kernel_rfl) (by kernel_rfl) _ w,q.1 w⟩,?_,fun ρ v0 nid j he=> ?_⟩
 .have q2:=q.2;simp[iK,gP,gY]at q2;simp[c_bits,Cd.m,tp,rdZ,rdB,rdL,ZO,YW,Sh.cks,YO,YN,ZM,b2i_one,ib,q2]
 .simp only[c_bits,Cd.m,tp,rdZ,rdB,rdL,ZO,YW,Sh.cks,YO,YN,ZM,b2i_one,eqs,dI,dB,cH,lu,be,ZP,ZE,and_true]at he;simp[c_bits,Cd.m,tp,rdZ,rdB,rdL,ZO,YW,Sh.cks,YO,YN,ZM,b2i_one,gN,bM,aL,V.den,C.den,Ad,Bt,ce,E.I,E.B,he]
def c_uwo:Cd:=⟨111,[.agg kPu,.one (.int .u64)],[.agg kPu,.one .bool],rd_Pu fun a=>rdZ fun v _=>d_Pu ((⟨if(a.lo==v)=ZB/\(a.hi==v)=ZC then IntKind.u64.wrap (a.lo+1)else a.lo,if(a.lo==v)=ZC/\(a.hi==v)=ZB then IntKind.u64.wrap (a.hi-1)else a.hi⟩:Pu)) [.z (Ay ((!((a.lo==v)&&(a.hi==v)))))],T0⟩
def am5:Tr:=
(.br (.eq (.w 0) (.w 2))
(.br (.eq (.w 1) (.w 2))
(.u (.vs 0 2 (.j (.tt ZC) .nil)))
(.u (.cons (.f .add .u64 (.w 0) (.p 1)) (.cons (.w 1) (.j (.tt ZB) .nil)))))
(.br (.eq (.w 1) (.w 2))
(.u (.cons (.w 0) (.cons (.f .sub .u64 (.w 1) (.p 1)) (.j (.tt ZB) .nil))))
(.u (.vs 0 2 (.j (.tt ZB) .nil)))))
def avO:c_uwo.Ok ZF:=
 A4 am5 (v_Pu [.int .u64]) fW AR func111<|ji fun a ha=>fun v hv hp ρ g=>by
 simp only[BO,AT,ZE]at g;simp only[am5,c_uwo,BO,Am,YI,ZE,-eq_self,Pu.eta,g]
 .repeat' first|apply aI<;>intro c|exact XA
def c_iwo:Cd:=⟨112,[.agg kPi,.one (.int .i64)],[.agg kPi,.one .bool],rd_Pi fun a=>rdZ fun v _=>d_Pi ((⟨if(a.lo==v)=ZB/\(a.hi==v)=ZC then IntKind.i64.wrap (a.lo+1)else a.lo,if(a.lo==v)=ZC/\(a.hi==v)=ZB then IntKind.i64.wrap (a.hi-1)else a.hi⟩:Pi)) [.z (Ay ((!((a.lo==v)&&(a.hi==v)))))],T0⟩
def anf:Tr:=
(.br (.eq (.w 0) (.w 2))
(.br (.eq (.w 1) (.w 2))
(.u (.vs 0 2 (.j (.tt ZC) .nil)))
(.u (.cons (.f .add .i64 (.w 0) (.p 1)) (.cons (.w 1) (.j (.tt ZB) .nil)))))
(.br (.eq (.w 1) (.w 2))
(.u (.cons (.w 0) (.cons (.f .sub .i64 (.w 1) (.p 1)) (.j (.tt ZB) .nil))))
(.u (.vs 0 2 (.j (.tt ZB) .nil)))))
def avV:c_iwo.Ok ZF:=
 A4 anf (v_Pi [.int .i64]) fW AR func112<|jk fun a ha=>fun v hv hp ρ g=>by
 simp only[BN,AT,ZE]at g;simp only[anf,c_iwo,BN,Am,YI,ZE,-eq_self,Pi.eta,g]
 .repeat' first|apply aI<;>intro c|exact XA
def c_uabove:Cd:=⟨113,[.agg kPu,.agg kPu,.one .bool,.one (.int .u64)],[.agg kPu,.one .bool],rd_Pu fun a=>rd_Pu fun b=>rdB fun t=>rdZ fun m _=>d_Pu ((⟨if t=ZB/\(b.lo==m)=ZB then a.lo else max a.lo (if t=ZB then IntKind.u64.wrap (b.lo+1)else b.lo),a.hi⟩:Pu)) [.z (Ay ((!(t&&(b.lo==m)))))],T0⟩
def wL:Tr:=
(.br (.s 4)
(.br (.eq (.w 2) (.w 5))
(.u (.vs 0 2 (.j (.tt ZC) .nil)))
(.u (.cons (.mx (.w 0) (.f .add .u64 (.w 2) (.p 1))) (.cons (.w 1) (.j (.tt ZB) .nil)))))
(.u (.cons (.mx (.w 0) (.w 2)) (.cons (.w 1) (.j (.tt ZB) .nil)))))
def alJ:c_uabove.Ok ZF:=
 A4 wL (v_Pu (v_Pu [.bool,.int .u64])) fW AR func113<|ji fun a ha=>ji fun b hb=>fun t m hm hp ρ g=>by
 simp only[BO,AT,ZE]at g;simp only[wL,c_uabove,BO,Am,YI,ZE,-eq_self,Pu.eta,g]
 .repeat' first|apply aI<;>intro c|exact XA
def c_ubelow:Cd:=⟨114,[.agg kPu,.agg kPu,.one .bool,.one (.int .u64)],[.agg kPu,.one .bool],rd_Pu fun a=>rd_Pu fun b=>rdB fun t=>rdZ fun m _=>d_Pu ((⟨a.lo,if t=ZB/\(b.hi==m)=ZB then a.hi else min a.hi (if t=ZB then IntKind.u64.wrap (b.hi-1)else b.hi)⟩:Pu)) [.z (Ay ((!(t&&(b.hi==m)))))],T0⟩
def wK:Tr:=
(.br (.s 4)
(.br (.eq (.w 3) (.w 5))
(.u (.vs 0 2 (.j (.tt ZC) .nil)))
(.u (.cons (.w 0) (.cons (.mn (.w 1) (.f .sub .u64 (.w 3) (.p 1))) (.j (.tt ZB) .nil)))))
(.u (.cons (.w 0) (.cons (.mn (.w 1) (.w 3)) (.j (.tt ZB) .nil)))))
def alI:c_ubelow.Ok ZF:=
 A4 wK (v_Pu (v_Pu [.bool,.int .u64])) fW AR func114<|ji fun a ha=>ji fun b hb=>fun t m hm hp ρ g=>by
 simp only[BO,AT,ZE]at g;simp only[wK,c_ubelow,BO,Am,YI,ZE,-eq_self,Pu.eta,g]
 .repeat' first|apply aI<;>intro c|exact XA
def c_iabove:Cd:=⟨115,[.agg kPi,.agg kPi,.one .bool,.one (.int .i64)],[.agg kPi,.one .bool],rd_Pi fun a=>rd_Pi fun b=>rdB fun t=>rdZ fun m _=>d_Pi ((⟨if t=ZB/\(b.lo==m)=ZB then a.lo else max a.lo (if t=ZB then IntKind.i64.wrap (b.lo+1)else b.lo),a.hi⟩:Pi)) [.z (Ay ((!(t&&(b.lo==m)))))],T0⟩
def wV:Tr:=
(.br (.s 4)
(.br (.eq (.w 2) (.w 5))
(.u (.vs 0 2 (.j (.tt ZC) .nil)))
(.u (.cons (.mx (.w 0) (.f .add .i64 (.w 2) (.p 1))) (.cons (.w 1) (.j (.tt ZB) .nil)))))
(.u (.cons (.mx (.w 0) (.w 2)) (.cons (.w 1) (.j (.tt ZB) .nil)))))
def alV:c_iabove.Ok ZF:=
 A4 wV (v_Pi (v_Pi [.bool,.int .i64])) fW AR func115<|jk fun a ha=>jk fun b hb=>fun t m hm hp ρ g=>by
 simp only[BN,AT,ZE]at g;simp only[wV,c_iabove,BN,Am,YI,ZE,-eq_self,Pi.eta,g]
 .repeat' first|apply aI<;>intro c|exact XA
def c_ibelow:Cd:=⟨116,[.agg kPi,.agg kPi,.one .bool,.one (.int .i64)],[.agg kPi,.one .bool],rd_Pi fun a=>rd_Pi fun b=>rdB fun t=>rdZ fun m _=>d_Pi ((⟨a.lo,if t=ZB/\(b.hi==m)=ZB then a.hi else min a.hi (if t=ZB then IntKind.i64.wrap (b.hi-1)else b.hi)⟩:Pi)) [.z (Ay ((!(t&&(b.hi==m)))))],T0⟩
def wU:Tr:=
(.br (.s 4)
(.br (.eq (.w 3) (.w 5))
(.u (.vs 0 2 (.j (.tt ZC) .nil)))
(.u (.cons (.w 0) (.cons (.mn (.w 1) (.f .sub .i64 (.w 3) (.p 1))) (.j (.tt ZB) .nil)))))
(.u (.cons (.w 0) (.cons (.mn (.w 1) (.w 3)) (.j (.tt ZB) .nil)))))
def alU:c_ibelow.Ok ZF:=
 A4 wU (v_Pi (v_Pi [.bool,.int .i64])) fW AR func116<|jk fun a ha=>jk fun b hb=>fun t m hm hp ρ g=>by
 simp only[BN,AT,ZE]at g;simp only[wU,c_ibelow,BN,Am,YI,ZE,-eq_self,Pi.eta,g]
 .repeat' first|apply aI<;>intro c|exact XA
def c_given:Cd:=⟨73,[.one (.int .i8),.agg kRg,.agg kRg],[.agg kRg,.one .bool],rdZ fun cc=>rd_Rg fun a=>rd_Rg fun b _=>d_Rg (CY cc a b) [.z (Ay (Cz cc a b))],T0⟩
def VN:Tr:=(.call 1 (kRg) .nil 20
(.u (.vs 20 4 (.j (.tt ZC) .nil))))
def VO:Tr:=(.call 1 (kRg) .nil 23
(.u (.vs 23 4 (.j (.tt ZC) .nil))))
def Sf:Tr:=(.call 1 (kRg) .nil 11
(.u (.vs 11 4 (.j (.tt ZC) .nil))))
def VP:Tr:=(.call 13 (kRg++[.bool]) (.vs 20 4 .nil) 24
(.u (.vs 24 4 (.j (.s 28) .nil))))
def VQ:Tr:=(.br (.s 19)
(.call 12 (kRg) (.vs 11 2 (.vs 17 2 .nil)) 20
 VP)
 VN)
def VS:Tr:=(.br (.s 19)
(.call 12 (kRg) (.vs 17 2 (.vs 13 2 .nil)) 20
 VP)
 VN)
def VT:Tr:=(.call 4 (kPu) (.vs 5 4 .nil) 15
(.call 9 (kPu++[.bool]) (.vs 11 2 (.vs 15 2 (.j (.eq (.w 0) (.p 4)) (.cons (.p 0) .nil)))) 17
 VS))
def VU:Tr:=(.call 5 (kPi) (.vs 5 4 .nil) 15
(.call 10 (kPi++[.bool]) (.vs 13 4 (.j (.eq (.w 0) (.p 6)) (.cons (.p 9223372036854775807) .nil))) 17
 VQ))
def VV:Tr:=(.call 5 (kPi) (.vs 5 4 .nil) 15
(.call 11 (kPi++[.bool]) (.vs 13 4 (.j (.eq (.w 0) (.p 8)) (.cons (.p (-9223372036854775808)) .nil))) 17
 VQ))
def VW:Tr:=(.call 4 (kPu) (.vs 5 4 .nil) 15
(.call 8 (kPu++[.bool]) (.vs 11 2 (.vs 15 2 (.j (.eq (.w 0) (.p 2)) (.cons (.p 18446744073709551615) .nil)))) 17
 VS))
def uA:Tr:=
(.call 0 [.bool] (.vs 1 4 .nil) 9
(.br (.s 9)
(.call 0 [.bool] (.vs 5 4 .nil) 10
(.br (.s 10)
(.br (.lt (.w 0) (.p 0))
 Sf
(.br (.lt (.p 10) (.w 0))
 Sf
(.call 4 (kPu) (.vs 1 4 .nil) 11
(.call 5 (kPi) (.vs 1 4 .nil) 13
(.br (.eq (.w 0) (.p 0))
(.call 2 (kRg++[.bool]) (.vs 1 8 .nil) 15
(.u (.vs 15 4 (.j (.s 19) .nil))))
(.br (.eq (.w 0) (.p 1))
(.call 3 [.int .u64,.bool] (.vs 5 4 .nil) 15
(.br (.s 16)
(.call 6 (kPu++[.bool]) (.vs 11 2 (.cons (.w 15) .nil)) 17
(.call 7 (kPi++[.bool]) (.vs 13 2 (.cons (.F .i64 (.w 15)) .nil)) 20
(.br (.s 19)
(.br (.s 22)
(.call 12 (kRg) (.vs 17 2 (.vs 20 2 .nil)) 23
(.call 13 (kRg++[.bool]) (.vs 23 4 .nil) 27
(.u (.vs 27 4 (.j (.s 31) .nil)))))
 VO)
 VO)))
(.call 12 (kRg) (.vs 11 4 .nil) 17
(.call 13 (kRg++[.bool]) (.vs 17 4 .nil) 21
(.u (.vs 21 4 (.j (.s 25) .nil)))))))
(.br (.eq (.w 0) (.p 2))
 VW
(.br (.eq (.w 0) (.p 3))
 VW
(.br (.eq (.w 0) (.p 4))
 VT
(.br (.eq (.w 0) (.p 5))
 VT
(.br (.eq (.w 0) (.p 6))
 VU
(.br (.eq (.w 0) (.p 7))
 VU
(.br (.eq (.w 0) (.p 8))
 VV
(.br (.eq (.w 0) (.p 9))
 VV
(.call 12 (kRg) (.vs 11 4 .nil) 15
(.call 13 (kRg++[.bool]) (.vs 15 4 .nil) 19
(.u (.vs 19 4 (.j (.s 23) .nil)))))))))))))))))))
 Sf))
(.call 1 (kRg) .nil 10
(.u (.vs 10 4 (.j (.tt ZC) .nil))))))
def ak8:cG ae8 (FH 0 [c_may,c_all,c_meet,c_single,c_uns,c_sig,c_uwo,c_iwo,c_uabove,c_ubelow,c_iabove,c_ibelow,c_of,c_nar]) [] [] [] 200 f73 c_given.a c_given.r (tp c_given.r) (.int .i8::v_Rg (v_Rg [])) uA:=FJ (by kernel_rfl)
def arv:c_given.Ok ZF:=
 GJ uA (.int .i8::v_Rg (v_Rg [])) fW (Aq xM<|Aq oh<|Aq anN<|Aq vf<|Aq OB<|Aq OC<|Aq avO<|Aq avV<|Aq alJ<|Aq alI<|Aq alV<|Aq alU<|Aq Jc<|Aq Wo AR) func73 FD ak8<|fun cc Cq=>dG fun a ha=>dG fun b hb hp ρ g=>by
 simp only[AP,BO,BN,AT,ZE]at g;simp only[uA,VW,VV,VU,VT,VS,VQ,VP,Sf,VO,VN,c_may,c_all,c_meet,c_single,c_uns,c_sig,c_uwo,c_iwo,c_uabove,c_ubelow,c_iabove,c_ibelow,c_of,c_nar,c_given,AP,BO,BN,Am,YI,ZE,-eq_self,bW,g];refine az ?_;apply aI<;>intro c0;refine az ?_;apply aI<;>intro c1;apply aI<;>intro c2;refine az ?_
 .exact dx (gS (.inl (by unfold jy;rw[c0,c1,fB (show¬0<=cc from Int.not_le.2 (Ae c2))];rfl))).1 (gS (.inl (by unfold jy;rw[c0,c1,fB (show¬0<=cc from Int.not_le.2 (Ae c2))];rfl))).2
 apply aI<;>intro c3;refine az ?_
 .exact dx (gS (.inl (by unfold jy;rw[c0,c1,fB (show¬cc<=10 from Int.not_le.2 (Ae c3))];simp))).1 (gS (.inl (by unfold jy;rw[c0,c1,fB (show¬cc<=10 from Int.not_le.2 (Ae c3))];simp))).2
 refine az ?_;refine az ?_;apply aI<;>intro c4;refine az ?_
 ·(have Cq:0<=cc/\cc<=10:=⟨bR.1 (Af c2),bR.1 (Af c3)⟩;have hg:=cd c0 c1 Cq;obtain rfl:=Bd c4;exact dx (auz hg).1 (auz hg).2)
 apply aI<;>intro c5;refine az ?_;apply aI<;>intro c6;refine az ?_;refine az ?_;apply aI<;>intro c7;apply aI<;>intro c8;refine az ?_;refine az ?_
 ·(have Cq:0<=cc/\cc<=10:=⟨bR.1 (Af c2),bR.1 (Af c3)⟩;have hg:=cd c0 c1 Cq;obtain rfl:=Bd c5;have hq:=ke Fn hg (awq ha hb c6 c7 c8) (awd ha hb c0 c6 c7 c8);exact dx hq.1 hq.2)
 refine az ?_
 ·(have Cq:0<=cc/\cc<=10:=⟨bR.1 (Af c2),bR.1 (Af c3)⟩;have hg:=cd c0 c1 Cq;obtain rfl:=Bd c5;have hq:=gS (cc:=1) (.inr ⟨by omega,auv ha hb c6 (.inr c8)⟩);exact dx hq.1 hq.2)
 refine az ?_
 ·(have Cq:0<=cc/\cc<=10:=⟨bR.1 (Af c2),bR.1 (Af c3)⟩;have hg:=cd c0 c1 Cq;obtain rfl:=Bd c5;have hq:=gS (cc:=1) (.inr ⟨by omega,auv ha hb c6 (.inl c7)⟩);exact dx hq.1 hq.2)
 refine az ?_;refine az ?_
 ·(have Cq:0<=cc/\cc<=10:=⟨bR.1 (Af c2),bR.1 (Af c3)⟩;have hg:=cd c0 c1 Cq;obtain rfl:=Bd c5;have hq:=ke Fn hg (auw ha hb c6) (aut ha hb c6);exact dx hq.1 hq.2)
 apply aI<;>intro c9;refine az ?_;refine az ?_;apply aI<;>intro CA;refine az ?_;refine az ?_
 ·(have Cq:0<=cc/\cc<=10:=⟨bR.1 (Af c2),bR.1 (Af c3)⟩;have hg:=cd c0 c1 Cq;obtain rfl:=Bd c9;have hq:=ke Fn hg (awp ha hb CA) (awc ha hb CA);exact dx hq.1 hq.2)
 refine az ?_
 ·(have Cq:0<=cc/\cc<=10:=⟨bR.1 (Af c2),bR.1 (Af c3)⟩;have hg:=cd c0 c1 Cq;obtain rfl:=Bd c9;have hq:=gS (cc:=2) (.inr ⟨by omega,awh ha hb CA⟩);exact dx hq.1 hq.2)
 apply aI<;>intro DD;refine az ?_;refine az ?_;apply aI<;>intro Cp;refine az ?_;refine az ?_
 ·(have Cq:0<=cc/\cc<=10:=⟨bR.1 (Af c2),bR.1 (Af c3)⟩;have hg:=cd c0 c1 Cq;obtain rfl:=Bd DD;have hq:=ke Fn hg (awo ha hb Cp) (awb ha hb Cp);exact dx hq.1 hq.2)
 refine az ?_
 ·(have Cq:0<=cc/\cc<=10:=⟨bR.1 (Af c2),bR.1 (Af c3)⟩;have hg:=cd c0 c1 Cq;obtain rfl:=Bd DD;exact ak Cp (by simp))
 apply aI<;>intro C9;refine az ?_;refine az ?_;apply aI<;>intro DE;refine az ?_;refine az ?_
 ·(have Cq:0<=cc/\cc<=10:=⟨bR.1 (Af c2),bR.1 (Af c3)⟩;have hg:=cd c0 c1 Cq;obtain rfl:=Bd C9;have hq:=ke Fn hg (awn ha hb DE) (awa ha hb DE);exact dx hq.1 hq.2)
 refine az ?_
 ·(have Cq:0<=cc/\cc<=10:=⟨bR.1 (Af c2),bR.1 (Af c3)⟩;have hg:=cd c0 c1 Cq;obtain rfl:=Bd C9;have hq:=gS (cc:=4) (.inr ⟨by omega,awg ha hb DE⟩);exact dx hq.1 hq.2)
 apply aI<;>intro DI;refine az ?_;refine az ?_;apply aI<;>intro Ew;refine az ?_;refine az ?_
 ·(have Cq:0<=cc/\cc<=10:=⟨bR.1 (Af c2),bR.1 (Af c3)⟩;have hg:=cd c0 c1 Cq;obtain rfl:=Bd DI;have hq:=ke Fn hg (awm ha hb Ew) (av9 ha hb Ew);exact dx hq.1 hq.2)
 refine az ?_
 ·(have Cq:0<=cc/\cc<=10:=⟨bR.1 (Af c2),bR.1 (Af c3)⟩;have hg:=cd c0 c1 Cq;obtain rfl:=Bd DI;exact ak Ew (by simp))
 apply aI<;>intro Ec;refine az ?_;refine az ?_;apply aI<;>intro DJ;refine az ?_;refine az ?_
 ·(have Cq:0<=cc/\cc<=10:=⟨bR.1 (Af c2),bR.1 (Af c3)⟩;have hg:=cd c0 c1 Cq;obtain rfl:=Bd Ec;have hq:=ke Fn hg (awl ha hb DJ) (av8 ha hb DJ);exact dx hq.1 hq.2)
 refine az ?_
 ·(have Cq:0<=cc/\cc<=10:=⟨bR.1 (Af c2),bR.1 (Af c3)⟩;have hg:=cd c0 c1 Cq;obtain rfl:=Bd Ec;have hq:=gS (cc:=6) (.inr ⟨by omega,awf ha hb DJ⟩);exact dx hq.1 hq.2)
 apply aI<;>intro D7;refine az ?_;refine az ?_;apply aI<;>intro FN;refine az ?_;refine az ?_
 ·(have Cq:0<=cc/\cc<=10:=⟨bR.1 (Af c2),bR.1 (Af c3)⟩;have hg:=cd c0 c1 Cq;obtain rfl:=Bd D7;have hq:=ke Fn hg (awk ha hb FN) (av7 ha hb FN);exact dx hq.1 hq.2)
 refine az ?_
 ·(have Cq:0<=cc/\cc<=10:=⟨bR.1 (Af c2),bR.1 (Af c3)⟩;have hg:=cd c0 c1 Cq;obtain rfl:=Bd D7;exact ak FN (by simp))
 apply aI<;>intro GU;refine az ?_;refine az ?_;apply aI<;>intro It;refine az ?_;refine az ?_
 ·(have Cq:0<=cc/\cc<=10:=⟨bR.1 (Af c2),bR.1 (Af c3)⟩;have hg:=cd c0 c1 Cq;obtain rfl:=Bd GU;have hq:=ke Fn hg (awj ha hb It) (av6 ha hb It);exact dx hq.1 hq.2)
 refine az ?_
 ·(have Cq:0<=cc/\cc<=10:=⟨bR.1 (Af c2),bR.1 (Af c3)⟩;have hg:=cd c0 c1 Cq;obtain rfl:=Bd GU;have hq:=gS (cc:=8) (.inr ⟨by omega,awe ha hb It⟩);exact dx hq.1 hq.2)
 apply aI<;>intro KI;refine az ?_;refine az ?_;apply aI<;>intro LF;refine az ?_;refine az ?_
 ·(have Cq:0<=cc/\cc<=10:=⟨bR.1 (Af c2),bR.1 (Af c3)⟩;have hg:=cd c0 c1 Cq;obtain rfl:=Bd KI;have hq:=ke Fn hg (awi ha hb LF) (av5 ha hb LF);exact dx hq.1 hq.2)
 refine az ?_
 ·(have Cq:0<=cc/\cc<=10:=⟨bR.1 (Af c2),bR.1 (Af c3)⟩;have hg:=cd c0 c1 Cq;obtain rfl:=Bd KI;exact ak LF (by simp))
 refine az ?_;refine az ?_
 ·(have Cq:0<=cc/\cc<=10:=⟨bR.1 (Af c2),bR.1 (Af c3)⟩;have hg:=cd c0 c1 Cq;obtain rfl:cc=10:=(by have:=CR c4;have h1:=CR c5;have h2:=CR c9;have h3:=CR DD;have h4:=CR C9;have h5:=CR DI;have h6:=CR Ec;have h7:=CR D7;have h8:=CR GU;have h9:=CR KI;omega);have hq:=ke Fn hg (auy ha hb) (auu ha hb);exact dx hq.1 hq.2)
 refine az ?_
 .exact dx (gS (.inl (by unfold jy;rw[c0,c1];rfl))).1 (gS (.inl (by unfold jy;rw[c0,c1];rfl))).2
 refine az ?_
 .exact dx (gS (.inl (by unfold jy;rw[c0];rfl))).1 (gS (.inl (by unfold jy;rw[c0];rfl))).2
structure Sc where
 ul:Int
 uh:Int
 sl:Int
 sh:Int
 v:Int
 m:Int
def Sc.r(a:Sc):Rg:=⟨a.ul,a.uh,a.sl,a.sh⟩
def Sc.k(a:Sc):Kn:=⟨a.v,a.m⟩
def sc(r:Rg)(k:Kn):Sc:=⟨r.ul,r.uh,r.sl,r.sh,k.v,k.m⟩
def Sc.eta_r(a:Sc):(⟨a.ul,a.uh,a.sl,a.sh⟩:Rg)=a.r:=rfl
def Sc.eta_k(a:Sc):(⟨a.v,a.m⟩:Kn)=a.k:=rfl
def Sc.eta_2(r:Rg)(k:Kn):(⟨r.ul,r.uh,r.sl,r.sh,k.v,k.m⟩:Sc)=sc r k:=rfl
def Bl(a:Sc):Bool:=AS a.r&&Bz a.k
def vall:Sc:=sc ball kall
def B7(v:Int):Sc:=sc (G5 v) (Es v)
def Bf(a:Sc)(x:Int):Bool:=Bl a&&(AI a.r x&&AU a.k x)
def yD(a:Sc):Bool:=Bl a&&eH a.r
def jC(a:Sc):Int:=if Bl a=ZB then aE a.r else 0
def FV(r:Rg):Kn:=jW r.ul (kR (bits .xor .u64 r.ul r.uh))
def Mj(k:Kn):Rg:=⟨k.v,bits .or .u64 k.v k.m,ball.sl,ball.sh⟩
def Lz(a:Sc):Bool:=fx a.r (Mj a.k)
def LA(a:Sc):Bool:=eN a.k (FV (jw a.r (Mj a.k)))
def IP(a:Sc):Sc:=sc (jw a.r (Mj a.k)) (jt a.k (FV (jw a.r (Mj a.k))))
def C6(a:Sc):Bool:=Bl a&&(Lz a&&(LA a&&(Lz (IP a)&&LA (IP a))))
def Ca(a:Sc):Sc:=if C6 a=ZB then IP (IP a)else vall
def Rk{a:Sc}(h0:Bl a=ZB)(h1:Lz a=ZB)(h2:LA a=ZB)(h3:Lz (IP a)=ZB)(h4:LA (IP a)=ZB):Ca a=IP (IP a)/\C6 a=ZB:=by
 have h:C6 a=ZB:=by unfold C6;rw[h0,h1,h2,h3,h4];rfl
 exact⟨ae h,h⟩
def KD{a:Sc}(h:Bl a=ZC\/Lz a=ZC\/LA a=ZC\/Lz (IP a)=ZC\/LA (IP a)=ZC):Ca a=vall/\C6 a=ZC:=by
 have h:C6 a=ZC:=by unfold C6;rcases h with h|h|h|h|h<;>rw[h]<;>simp
 exact⟨aa XX,h⟩
def asE(a:Sc):(if C6 a=ZB then Ca a else vall)=Ca a:=by
 cases h:C6 a
 .unfold Ca;rw[h];simp
 .simp
def jE(a b:Sc):Sc:=if Bl a=ZB/\Bl b=ZB then Ca (sc (jx a.r b.r) (ju a.k b.k))else vall
def FM(x y:Rg):Rg:=⟨if(x.ul==y.ul)=ZC/\decide (y.ul<x.ul)=ZB then 0 else x.ul,if(x.uh==y.uh)=ZC/\decide (x.uh<y.uh)=ZB then 18446744073709551615 else x.uh,
 if(x.sl==y.sl)=ZC/\decide (y.sl<x.sl)=ZB then -9223372036854775808 else x.sl,if(x.sh==y.sh)=ZC/\decide (x.sh<y.sh)=ZB then 9223372036854775807 else x.sh⟩
def DC(a b:Sc):Sc:=if Bl a=ZB/\Bl b=ZB then Ca (sc (FM a.r b.r) (ju a.k b.k))else vall
def Io(a:Sc):Sc:=Ca (sc (CZ a.r) (B1 a.k 32))
def Hz(t:Int):Sc:=Ca (sc ⟨0,t,ball.sl,ball.sh⟩ ⟨0,t⟩)
def KC(r:Rg):Rg:=if r.uh<4294967296 then r else CZ ball
def fd(op:Int)(a b:Sc):Rg:=
 if op=8\/op=12 then CZ ball
 else if op=6\/op=7 then(if yD b=ZB then KC (DT op a.r (B7 (Ac .and .u64 (jC b) 31)).r)else CZ ball)
 else KC (DT op a.r b.r)
def Pa(op w:Int)(a b:Sc):Sc:=sc (fd op (Io a) (Io b)) (IJ op w (Io a).k (Io b).k)
def G4(op w:Int)(a b:Sc):Sc:=if BT op w=ZB/\Bl a=ZB/\Bl b=ZB then(if w=64 then Ca (sc (DT op a.r b.r) (IJ op 64 a.k b.k))else if C6 (Pa op w a b)=ZB then Ca (Pa op w a b)else Hz 4294967295)else vall
def TA(cc:Int)(a b:Sc):Kn:=if cc=0 then jt a.k b.k else a.k
def TB(cc:Int)(a b:Sc):Sc:=sc (CY cc a.r b.r) (TA cc a b)
def DB(cc:Int)(a b:Sc):Bool:=Bl a&&(Bl b&&(Cz cc a.r b.r&&((if cc=0 then eN a.k b.k else ZB)&&C6 (TB cc a b))))
def Ev(cc:Int)(a b:Sc):Sc:=if DB cc a b=ZB then Ca (TB cc a b)else vall
def Rh{a b:Sc}(h0:Bl a=ZB)(h1:Bl b=ZB)(h2:Cz cc a.r b.r=ZB)(h3:(cc==0)=ZB)(h4:eN a.k b.k=ZB):
  Ev cc a b=Ca (sc (CY cc a.r b.r) (jt a.k b.k))/\DB cc a b=C6 (sc (CY cc a.r b.r) (jt a.k b.k)):=by
 obtain rfl:=Bd h3;have e:DB 0 a b=C6 (sc (CY 0 a.r b.r) (jt a.k b.k)):=by unfold DB;rw[h0,h1,h2,ae rfl,h4];rfl
 refine⟨?_,e⟩;unfold Ev;rw[e];exact asE _
def Ri{a b:Sc}(h0:Bl a=ZB)(h1:Bl b=ZB)(h2:Cz cc a.r b.r=ZB)(h3:(cc==0)=ZC):
  Ev cc a b=Ca (sc (CY cc a.r b.r) a.k)/\DB cc a b=C6 (sc (CY cc a.r b.r) a.k):=by
 have h3:=CR h3;have e:DB cc a b=C6 (sc (CY cc a.r b.r) a.k):=by unfold DB TB TA;rw[h0,h1,h2,aa h3,aa h3];rfl
 refine⟨?_,e⟩;unfold Ev;rw[e];unfold TB TA;rw[aa h3];exact asE _
def Ly{a b:Sc}(h:Bl a=ZC\/Bl b=ZC\/Cz cc a.r b.r=ZC\/((cc==0)=ZB/\eN a.k b.k=ZC)):Ev cc a b=vall/\DB cc a b=ZC:=by
 have h:DB cc a b=ZC:=by
  unfold DB;rcases h with h|h|h|⟨h,h'⟩
  .exact XX
  .exact XX
  .exact XX
  .rw[ae (Bd h),h'];simp
 exact⟨aa XX,h⟩
def DQ(cc l:Int):Bool:=(decide (0<=cc)&&decide (cc<=10))&&iJ l
def V3{b:Bool}(h:((if b=ZB then(0:Int)else 2)==0)=ZB):b=ZB:=by cases b<;>simp_all
def atx{b:Bool}(h:((if b=ZB then(0:Int)else 2)==0)=ZC):b=ZC:=by cases b<;>simp_all
def dX{r s:Kn}(h:r=s):[Dt.z r.v,.z r.m]=[Dt.z s.v,.z s.m]:=by rw[h]
def atO{r:Rg}(hr:r.wf):(⟨bits .andNot .u64 r.ul (Ac .sub .u64 (Ac .shl .u64 1 (Ac .sub .i64 64 (64-(aA (bits .xor .u64 r.ul r.uh).toNat:Int)))) 1),Ac .sub .u64 (Ac .shl .u64 1 (Ac .sub .i64 64 (64-(aA (bits .xor .u64 r.ul r.uh).toNat:Int)))) 1⟩:Kn)=FV r:=by
 have hx:=rU r.ul r.uh;have hb:aA (bits .xor .u64 r.ul r.uh).toNat<=64:=gF Fn;have e:Ac .sub .i64 64 (64-(aA (bits .xor .u64 r.ul r.uh).toNat:Int))=(aA (bits .xor .u64 r.ul r.uh).toNat:Int):=by show IntKind.i64.wrap _=_;rw[aK];omega
 rw[e,TH hx.1 hx.2];rfl
def atP{r:Rg}(hr:r.wf)(h:decide (0<64-(aA (bits .xor .u64 r.ul r.uh).toNat:Int))=ZC):(⟨bits .andNot .u64 r.ul 18446744073709551615,18446744073709551615⟩:Kn)=FV r:=by
 have h:=Af h;have hx:=rU r.ul r.uh;have hb:aA (bits .xor .u64 r.ul r.uh).toNat<=64:=gF Fn;have e:kR (bits .xor .u64 r.ul r.uh)=18446744073709551615:=by unfold kR;rw[show aA (bits .xor .u64 r.ul r.uh).toNat=64 by omega];rfl
 unfold FV jW;rw[e]
section
variable {op l:Int}{a b:Kn}
def atM(h:ee op l a b=ZC):kall=IJ op l a b:=by unfold IJ;rw[aa XX]
def kd_a(h:Bz a=ZC):ee op l a b=ZC:=by simp[ee,h]
def kd_b(h:Bz b=ZC):ee op l a b=ZC:=by simp[ee,h]
def avJ(h:decide (op<0)=ZB):ee op l a b=ZC:=by have:=Ae h;simp[ee,fB (show¬0<=op by omega)]
def avK(h:decide (12<op)=ZB):ee op l a b=ZC:=by have:=Ae h;simp[ee,fB (show¬op<=12 by omega)]
def kd_w(h:(l==32)=ZC)(h':(l==64)=ZC):ee op l a b=ZC:=by simp[ee,iJ,h,h']
def atL(h0:Bz a=ZB)(h1:Bz b=ZB)(h2:decide (op<0)=ZC)(h3:decide (12<op)=ZC)(h4:iJ l=ZB):ee op l a b=ZB/\BT op l=ZB:=by have h2:=Af h2;have h3:=Af h3;simp[ee,BT,h0,h1,h4,cP (show 0<=op by omega),cP (show op<=12 by omega)]
def avI(h:(!ee op l a b)=ZC):(ee op l a b=ZB/\BT op l=ZB)/\(0<=op/\op<=12)/\(l=32\/l=64):=by have h:ee op l a b=ZB:=Xw;have h2:=h;unfold ee at h2;simp only[ne,ax]at h2;obtain⟨_,_,h3,h4,h5⟩:=h2;refine⟨⟨h,by unfold BT;rw[cP h3,cP h4,h5];rfl⟩,⟨h3,h4⟩,?_⟩;unfold iJ at h5;simpa using h5
def atK(hg:ee op l a b=ZB/\BT op l=ZB)(h:(bits .or .u64 (B1 a l).m (B1 b l).m==0)=ZB):Es (if BT op l=ZB then BI op l (B1 a l).v (B1 b l).v else 0)=IJ op l a b:=by unfold IJ;rw[ae hg.1,ae h,ae hg.2]
def kP{X:Kn}(hg:ee op l a b=ZB/\BT op l=ZB)(h:(bits .or .u64 (B1 a l).m (B1 b l).m==0)=ZC)(e:Dk op l (B1 a l) (B1 b l)=X):B1 X l=IJ op l a b:=by unfold IJ;rw[ae hg.1,aa XX,e]
def V0(h:op=6\/op=7\/op=12)(c:(bits .and .u64 b.m (l-1)==0)=ZB):Dk op l a b=R2 op l a b:=by unfold Dk;rcases h with rfl|rfl|rfl<;>simp[c]
def V1(h:op=6\/op=7\/op=12)(c:(bits .and .u64 b.m (l-1)==0)=ZC):Dk op l a b=kall:=by unfold Dk;rcases h with rfl|rfl|rfl<;>simp[c]
end
def Kn.eta(a:Kn):(⟨a.v,a.m⟩:Kn)=a:=rfl
def rd_Kn(k:Kn->List Dt->List Dt):List Dt->List Dt
 |.z z0::.z z1::r=>k ⟨z0,z1⟩ r
 |_=>[]
def Kn.ok(a:Kn):Prop:=Aj .u64 a.v=ZB/\Aj .u64 a.m=ZB
def kKn:List CK:=[.int .u64,.int .u64]
def v_Kn(t:List VK):List VK:=.int .u64::.int .u64::t
def d_Kn(a:Kn)(t:List Dt):List Dt:=.z a.v::.z a.m::t
def dh{p:List Dt->Prop}(h:∀a:Kn,Kn.ok a->ba l fun r=>p (d_Kn a r)):ba (v_Kn l) p:=fun x0 Dr x1 DY=>h ⟨x0,x1⟩ ⟨Dr,DY⟩
def A1:=aI @v_Kn.eq_1 (aI @d_Kn.eq_1 (aI @rd_Kn.eq_1 (@kKn.eq_1)))
def Sc.eta(a:Sc):(⟨a.ul,a.uh,a.sl,a.sh,a.v,a.m⟩:Sc)=a:=rfl
def rd_Sc(k:Sc->List Dt->List Dt):List Dt->List Dt
 |.z z0::.z z1::.z z2::.z z3::.z z4::.z z5::r=>k ⟨z0,z1,z2,z3,z4,z5⟩ r
 |_=>[]
def Sc.ok(a:Sc):Prop:=Aj .u64 a.ul=ZB/\Aj .u64 a.uh=ZB/\Aj .i64 a.sl=ZB/\Aj .i64 a.sh=ZB/\Aj .u64 a.v=ZB/\Aj .u64 a.m=ZB
def kSc:List CK:=[.int .u64,.int .u64,.int .i64,.int .i64,.int .u64,.int .u64]
def v_Sc(t:List VK):List VK:=.int .u64::.int .u64::.int .i64::.int .i64::.int .u64::.int .u64::t
def d_Sc(a:Sc)(t:List Dt):List Dt:=.z a.ul::.z a.uh::.z a.sl::.z a.sh::.z a.v::.z a.m::t
def dV{p:List Dt->Prop}(h:∀a:Sc,Sc.ok a->ba l fun r=>p (d_Sc a r)):ba (v_Sc l) p:=fun x0 Dr x1 DY x2 HT x3 Hc x4 K0 x5 MR=>h ⟨x0,x1,x2,x3,x4,x5⟩ ⟨Dr,DY,HT,Hc,K0,MR⟩
def A5:=aI @v_Sc.eq_1 (aI @d_Sc.eq_1 (aI @rd_Sc.eq_1 (@kSc.eq_1)))
def gW:=aI Kn.eta (aI Pi.eta (aI Pu.eta (aI Rg.eta (aI Sc.eta (aI Sc.eta_r (aI Sc.eta_k (Sc.eta_2)))))))
def dp{q:Prop}(k:q2)(h:p->q=q2:=by intro e;(try simp only[e,gW,-eq_self]);rfl):p->q:=fun e=>(h e).symm▸k
def apF:List (Nat×TI):=[(2,DA),
 (43,hJ),
 (57,lm),
 (59,oQ),
 (61,SE)]
def dl:∀t i,(t,i)∈apF->TIok ZF t i:=bK Ch Ch (by kernel_rfl)
def c_kmay:Cd:=⟨106,[.agg kKn],[.one .bool],rd_Kn fun a _=>[.z (Ay (Bz a))],T0⟩
def agT:Tr:=
(.u (.j (.eq (.f .and .u64 (.w 0) (.w 1)) (.p 0)) .nil))
def xN:c_kmay.Ok ZF:=
 A4 agT (v_Kn []) dl AR func106<|dh fun a ha hp ρ g=>by
 simp only[A1,AT,ZE]at g;simp only[agT,c_kmay,A1,Am,YI,ZE,-eq_self,Kn.eta,Sc.eta_r,Sc.eta_k,Sc.eta_2,g]
 .rfl
def c_kall:Cd:=⟨104,[],[.agg kKn],fun _=>d_Kn kall [],T0⟩
def agX:Tr:=
(.u (.cons (.p 0) (.cons (.p 18446744073709551615) .nil)))
def xO:c_kall.Ok ZF:=
 A4 agX [] dl AR func104<|fun hp ρ g=>by
 simp only[agX,c_kall,A1,Am,YI,ZE,-eq_self,Sc.eta_r,Sc.eta_k,Sc.eta_2]
 .rfl
def c_kone:Cd:=⟨61,[.one (.int .u64)],[.agg kKn],rdZ fun v _=>d_Kn (Es v) [],T0⟩
def agR:Tr:=
(.u (.cons (.w 0) (.cons (.p 0) .nil)))
def UB:c_kone.Ok ZF:=
 A4 agR [.int .u64] dl AR func61<|fun v hv hp ρ g=>by
 simp only[A1,AT,ZE]at g;simp only[agR,c_kone,A1,Am,YI,ZE,-eq_self,Sc.eta_r,Sc.eta_k,Sc.eta_2,g]
 .rfl
def c_kmask:Cd:=⟨118,[.one (.int .u64),.one (.int .u64)],[.agg kKn],rdZ fun v=>rdZ fun m _=>d_Kn (jW v m) [],T0⟩
def abD:Tr:=
(.u (.cons (.f .andNot .u64 (.w 0) (.w 1)) (.cons (.w 1) .nil)))
def og:c_kmask.Ok ZF:=
 A4 abD [.int .u64,.int .u64] dl AR func118<|fun v hv m hm hp ρ g=>by
 simp only[A1,AT,ZE]at g;simp only[abD,c_kmask,A1,Am,YI,ZE,-eq_self,Sc.eta_r,Sc.eta_k,Sc.eta_2,g]
 .rfl
def c_kjoin:Cd:=⟨79,[.agg kKn,.agg kKn],[.agg kKn],rd_Kn fun a=>rd_Kn fun b _=>d_Kn (ju a b) [],T0⟩
def abE:Tr:=
(.call 0 [.bool] (.vs 0 2 .nil) 4
(.br (.s 4)
(.call 0 [.bool] (.vs 2 2 .nil) 5
(.br (.s 5)
(.call 2 (kKn) (.cons (.w 0) (.cons (.f .or .u64 (.f .or .u64 (.w 1) (.w 3)) (.f .xor .u64 (.w 0) (.w 2))) .nil)) 6
(.u (.vs 6 2 .nil)))
(.call 1 (kKn) .nil 6
(.u (.vs 6 2 .nil)))))
(.call 1 (kKn) .nil 5
(.u (.vs 5 2 .nil)))))
def ait:c_kjoin.Ok ZF:=
 A4 abE (v_Kn (v_Kn [])) dl (Aq xN<|Aq xO<|Aq og AR) func79<|dh fun a ha=>dh fun b hb hp ρ g=>by
 simp only[A1,AT,ZE]at g;simp only[abE,c_kmay,c_kall,c_kmask,c_kjoin,A1,Am,YI,ZE,-eq_self,gW,g];refine dp ?_;apply aI<;>intro c0;refine dp ?_;apply aI<;>intro c1;refine dp ?_
 ·(unfold ju;simp_all [Ac])
 refine dp ?_
 ·(unfold ju;simp_all [Ac])
 refine dp ?_
 ·(unfold ju;simp_all [Ac])
def c_kmeet:Cd:=⟨74,[.agg kKn,.agg kKn],[.agg kKn,.one .bool],rd_Kn fun a=>rd_Kn fun b _=>d_Kn (jt a b) [.z (Ay (eN a b))],T0⟩
def VM:Tr:=(.call 1 (kKn) .nil 6
(.u (.vs 6 2 (.j (.tt ZC) .nil))))
def abC:Tr:=
(.call 0 [.bool] (.vs 0 2 .nil) 4
(.br (.s 4)
(.call 0 [.bool] (.vs 2 2 .nil) 5
(.br (.s 5)
(.br (.eq (.f .andNot .u64 (.f .xor .u64 (.w 0) (.w 2)) (.f .or .u64 (.w 1) (.w 3))) (.p 0))
(.call 2 (kKn) (.cons (.f .or .u64 (.w 0) (.w 2)) (.cons (.f .and .u64 (.w 1) (.w 3)) .nil)) 6
(.u (.vs 6 2 (.j (.tt ZB) .nil))))
 VM)
 VM))
(.call 1 (kKn) .nil 5
(.u (.vs 5 2 (.j (.tt ZC) .nil))))))
def ais:c_kmeet.Ok ZF:=
 A4 abC (v_Kn (v_Kn [])) dl (Aq xN<|Aq xO<|Aq og AR) func74<|dh fun a ha=>dh fun b hb hp ρ g=>by
 simp only[A1,AT,ZE]at g;simp only[abC,VM,c_kmay,c_kall,c_kmask,c_kmeet,A1,Am,YI,ZE,-eq_self,gW,g];refine dp ?_
 .repeat' first|apply aI<;>intro c|refine dp ?_|exact X2
def c_bcut:Cd:=⟨131,[.one (.int .u64),.one (.int .i8)],[.one (.int .u64)],rdZ fun x=>rdZ fun l _=>[.z (Ar x l)],T0⟩
def ap9(x:Int)(hx:Aj .u64 x=ZB)(l:Int)(hl:Aj .i8 l=ZB):(∀w,Calls ZF 131 #[.int .u64 x,.int .i8 l] w fun e w'=>e=.returned (.int .u64 (Ar x l))/\Ext w w')/\iK (.int .u64 (Ar x l))=ZB:=by have g:=dr hx;have hz:=tY (dJ x l g.1 g.2);exact⟨fun W=>(vt x l W g.1 g.2).mono (by rintro e w' ⟨rfl,rfl⟩;exact⟨rfl,Ext.refl _⟩),hz⟩
def aum:c_bcut.Ok ZF:=fun hF hP=>by
 refine SmOk.pure (s:=c_bcut.m _) hF rfl rfl fun xs vals w h=> ?_;obtain⟨_,_,_,rfl,⟨x0,rfl,rfl,Dr⟩,h⟩:=h;obtain⟨_,_,_,rfl,⟨x1,rfl,rfl,DY⟩,h⟩:=h;obtain⟨rfl,rfl⟩:=h;have q:=ap9 x0 Dr x1 DY;refine⟨_,.inr ⟨ez func131 (by kernel_rfl) (by kernel_rfl) _ w,q.1 w⟩,?_,fun ρ v0 nid j he=> ?_⟩
 .have q2:=q.2;simp[iK,gP,gY]at q2;simp[c_bcut,Cd.m,tp,rdZ,rdB,rdL,ZO,YW,Sh.cks,YO,YN,ZM,b2i_one,ib,q2]
 .simp only[c_bcut,Cd.m,tp,rdZ,rdB,rdL,ZO,YW,Sh.cks,YO,YN,ZM,b2i_one,eqs,dI,dB,cH,lu,be,ZP,ZE,and_true]at he;simp[c_bcut,Cd.m,tp,rdZ,rdB,rdL,ZO,YW,Sh.cks,YO,YN,ZM,b2i_one,gN,bM,aL,V.den,C.den,Ad,Bt,ce,E.I,E.B,he]
def c_kcut:Cd:=⟨137,[.agg kKn,.one (.int .i8)],[.agg kKn],rd_Kn fun a=>rdZ fun l _=>d_Kn (B1 a l) [],T0⟩
def agV:Tr:=
(.call 0 [.bool] (.vs 0 2 .nil) 3
(.br (.s 3)
(.call 2 [.int .u64] (.cons (.w 0) (.cons (.w 2) .nil)) 4
(.call 2 [.int .u64] (.vs 1 2 .nil) 5
(.u (.vs 4 2 .nil))))
(.call 1 (kKn) .nil 4
(.u (.vs 4 2 .nil)))))
def anQ:c_kcut.Ok ZF:=
 A4 agV (v_Kn [.int .i8]) dl (Aq xN<|Aq xO<|Aq aum AR) func137<|dh fun a ha=>fun l hl hp ρ g=>by
 simp only[A1,AT,ZE]at g;simp only[agV,c_kmay,c_kall,c_bcut,c_kcut,A1,Am,YI,ZE,-eq_self,gW,g];refine dp ?_;apply aI<;>intro c0;refine dp ?_;refine dp ?_
 ·(unfold B1;simp_all)
 refine dp ?_
 ·(unfold B1;simp_all)
def c_vmay:Cd:=⟨72,[.agg kSc],[.one .bool],rd_Sc fun a _=>[.z (Ay (Bl a))],T0⟩
def agt:Tr:=
(.call 0 [.bool] (.vs 0 4 .nil) 6
(.br (.s 6)
(.call 1 [.bool] (.vs 4 2 .nil) 7
(.u (.j (.s 7) .nil)))
 zlF))
def qO:c_vmay.Ok ZF:=
 A4 agt (v_Sc []) dl (Aq xM<|Aq xN AR) func72<|dV fun a ha hp ρ g=>by
 simp only[A5,AP,A1,AT,ZE]at g;simp only[agt,c_may,c_kmay,c_vmay,A5,AP,A1,Am,YI,ZE,-eq_self,gW,g];refine dp ?_;apply aI<;>intro c0;refine dp ?_
 ·(unfold Bl;simp_all)
 ·(unfold Bl;simp_all)
def c_vall:Cd:=⟨71,[],[.agg kSc],fun _=>d_Sc vall [],T0⟩
def agz:Tr:=
(.call 0 (kRg) .nil 0
(.call 1 (kKn) .nil 4
(.u (.vs 0 6 .nil))))
def sM:c_vall.Ok ZF:=
 A4 agz [] dl (Aq oh<|Aq xO AR) func71<|fun hp ρ g=>by
 simp only[agz,c_all,c_kall,c_vall,A5,AP,A1,Am,YI,ZE,-eq_self,gW];refine dp ?_;refine dp ?_
 .rfl
def c_vone:Cd:=⟨32,[.one (.int .u64)],[.agg kSc],rdZ fun v _=>d_Sc (B7 v) [],T0⟩
def agr:Tr:=
(.call 0 (kRg) (.cons (.w 0) .nil) 1
(.call 1 (kKn) (.cons (.w 0) .nil) 5
(.u (.vs 1 6 .nil))))
def R3:c_vone.Ok ZF:=
 A4 agr [.int .u64] dl (Aq avQ<|Aq UB AR) func32<|fun v hv hp ρ g=>by
 simp only[A5,AP,A1,AT,ZE]at g;simp only[agr,c_one,c_kone,c_vone,A5,AP,A1,Am,YI,ZE,-eq_self,gW,g];refine dp ?_;refine dp ?_
 .rfl
def c_vsingle:Cd:=⟨146,[.agg kSc],[.one (.int .u64),.one .bool],rd_Sc fun a _=>[.z (jC a),.z (Ay (yD a))],T0⟩
def sq:Tr:=
(.call 0 [.bool] (.vs 0 6 .nil) 6
(.br (.s 6)
(.call 1 [.int .u64,.bool] (.vs 0 4 .nil) 7
(.u (.cons (.w 7) (.j (.s 8) .nil))))
(.u (.cons (.p 0) (.j (.tt ZC) .nil)))))
def aim:c_vsingle.Ok ZF:=
 A4 sq (v_Sc []) dl (Aq qO<|Aq vf AR) func146<|dV fun a ha hp ρ g=>by
 simp only[A5,AP,AT,ZE]at g;simp only[sq,c_vmay,c_single,c_vsingle,A5,AP,Am,YI,ZE,-eq_self,gW,g];refine dp ?_;apply aI<;>intro c0;refine dp ?_
 ·(unfold jC yD;simp_all)
 ·(unfold jC yD;simp_all)
def Kn.wf_of{a:Kn}(h:a.ok):a.wf:=⟨dr h.1,dr h.2⟩
structure Sc.wf(a:Sc):Prop where
 r:a.r.wf
 k:a.k.wf
def Sc.wf_of{a:Sc}(h:a.ok):a.wf:=by obtain⟨h1,h2,h3,h4,h5,h6⟩:=h;exact⟨⟨dr h1,dr h2,iX h3,iX h4⟩,⟨dr h5,dr h6⟩⟩
structure Ty where
 k:Int
 ul:Int
 uh:Int
 sl:Int
 sh:Int
 v:Int
 m:Int
 lo:Int
 hi:Int
def Ty.s(t:Ty):Sc:=⟨t.ul,t.uh,t.sl,t.sh,t.v,t.m⟩
def ty(k:Int)(s:Sc)(lo hi:Int):Ty:=⟨k,s.ul,s.uh,s.sl,s.sh,s.v,s.m,lo,hi⟩
def Ty.eta_s(t:Ty):(⟨t.ul,t.uh,t.sl,t.sh,t.v,t.m⟩:Sc)=t.s:=rfl
structure Sta where
 r0:Ty
 r1:Ty
 r2:Ty
 r3:Ty
 r4:Ty
 r5:Ty
 r6:Ty
 r7:Ty
 r8:Ty
 r9:Ty
 r10:Ty
 s0:Ty
 s1:Ty
 s2:Ty
 s3:Ty
 s4:Ty
 s5:Ty
 s6:Ty
 s7:Ty
def tnil:Ty:=⟨0,0,0,0,0,0,0,0,0⟩
def tscal:Ty:=ty 1 vall 0 0
def dZ(t:Ty):Bool:=(t.ul==0)&&((t.uh==0)&&((t.sl==0)&&((t.sh==0)&&((t.v==0)&&(t.m==0)))))
def BJ(t:Ty):Bool:=
 if t.k=0 then dZ t&&((t.lo==0)&&(t.hi==0))
 else if t.k=1 then Bl t.s&&((t.lo==0)&&(t.hi==0))
 else if t.k=2\/t.k=3 then dZ t&&(decide (t.lo<=t.hi)&&(decide (-1048576<=t.lo)&&decide (t.hi<=1048576)))
 else ZC
def tset(t:Ty):Bool:=BJ t &&!(t.k==0)
def AV(s:Sta):Bool:=
 BJ s.r0&&(BJ s.r1&&(BJ s.r2&&(BJ s.r3&&(BJ s.r4&&(BJ s.r5&&(BJ s.r6&&(BJ s.r7&&(BJ s.r8&&(BJ s.r9&&(BJ s.r10&&
 (tset s.s0&&(tset s.s1&&(tset s.s2&&(tset s.s3&&(tset s.s4&&(tset s.s5&&(tset s.s6&&tset s.s7)))))))))))))))))
def bT(t:Ty):Int:=if t.k=2 then 2097152 else 3145728
def EN(t:Ty)(v:Int):Int:=ZG .i64 (ZG .u64 (v-bT t))
def bm(t:Ty)(v:Int):Bool:=BJ t&&(if t.k=0 then ZB else if t.k=1 then Bf t.s v else(decide (t.lo<=EN t v)&&decide (EN t v<=t.hi)))
def mc{t:Ty}(h:BJ t=ZB):t.k=0\/t.k=1\/t.k=2\/t.k=3:=by
 unfold BJ at h;split at h
 .exact .inl ‹_›
 split at h
 .exact .inr (.inl ‹_›)
 split at h
 next h2=>exact .inr (.inr h2)
 .exact ST
def apN{t:Ty}(h:BJ t=ZB)(hk:t.k=0):bm t v=ZB:=by unfold bm;rw[h,ae hk];rfl
def ue{t:Ty}(h:BJ t=ZB)(hk:t.k=1):bm t v=Bf t.s v:=by unfold bm;rw[h,aa Fn,ae hk];rfl
def jJ:Sta:=⟨tnil,⟨2,0,0,0,0,0,0,0,0⟩,tnil,tnil,tnil,tnil,tnil,tnil,tnil,tnil,⟨3,0,0,0,0,0,0,64,64⟩,
 ty 1 (B7 0) 0 0,ty 1 (B7 0) 0 0,ty 1 (B7 0) 0 0,ty 1 (B7 0) 0 0,ty 1 (B7 0) 0 0,ty 1 (B7 0) 0 0,ty 1 (B7 0) 0 0,ty 1 (B7 0) 0 0⟩
def G3(w:Bool)(a b:Ty):Int:=if w=ZB/\min a.lo b.lo<a.lo then -1048576 else min a.lo b.lo
def G2(w:Bool)(a b:Ty):Int:=if w=ZB/\a.hi<max a.hi b.hi then 1048576 else max a.hi b.hi
def eh(w t:Bool)(a b:Ty):Ty:=
 if a.k=0\/b.k=0 then tnil
 else if a.k≠b.k then tscal
 else if a.k=1 then ty 1 (if w=ZB then DC a.s b.s else jE a.s b.s) 0 0
 else⟨a.k,0,0,0,0,0,0,G3 t a b,G2 t a b⟩
def cN(w:Bool)(a b:Ty):Ty:=eh w w a b
def Lu(w:Bool)(a b:Sta):Sta:=⟨cN w a.r0 b.r0,cN w a.r1 b.r1,cN w a.r2 b.r2,cN w a.r3 b.r3,cN w a.r4 b.r4,cN w a.r5 b.r5,cN w a.r6 b.r6,cN w a.r7 b.r7,cN w a.r8 b.r8,cN w a.r9 b.r9,cN w a.r10 b.r10,
 cN w a.s0 b.s0,cN w a.s1 b.s1,cN w a.s2 b.s2,cN w a.s3 b.s3,cN w a.s4 b.s4,cN w a.s5 b.s5,cN w a.s6 b.s6,cN w a.s7 b.s7⟩
def Kz:Sta:=⟨tnil,tnil,tnil,tnil,tnil,tnil,tnil,tnil,tnil,tnil,tnil,tnil,tnil,tnil,tnil,tnil,tnil,tnil,tnil⟩
def iQ(w:Bool)(a b:Sta):Sta:=if AV a=ZB/\AV b=ZB then Lu w a b else Kz
def Fy(a b:Sta):Int:=if AV a=ZB/\AV b=ZB then 0 else 2
def N3{w:Bool}{a b:Ty}(h:(a.k==0)=ZB):eh w t a b=tnil:=by unfold eh;rw[ae (.inl Xw)]
def N4{w:Bool}{a b:Ty}(h:(b.k==0)=ZB):eh w t a b=tnil:=by unfold eh;rw[ae (.inr Xw)]
def VD{w:Bool}{a b:Ty}(h0:(a.k==0)=ZC)(h1:(b.k==0)=ZC)(h2:(a.k==b.k)=ZC):eh w t a b=tscal:=by unfold eh;rw[aa (by simp at h0 h1;simp[h0,h1]),ae XJ]
def N2{w:Bool}{a b:Ty}(h0:(a.k==0)=ZC)(h1:(b.k==0)=ZC)(h2:(a.k==b.k)=ZB)(h3:(a.k==1)=ZB):eh w t a b=ty a.k (if w=ZB then DC a.s b.s else jE a.s b.s) 0 0:=by
 have e:a.k=1:=by simpa using h3
 unfold eh;rw[aa (by simp at h0 h1;simp[h0,h1]),aa XJ,ae e,e]
def FB{w:Bool}{a b:Ty}(h0:(a.k==0)=ZC)(h1:(b.k==0)=ZC)(h2:(a.k==b.k)=ZB)(h3:(a.k==1)=ZC):eh w t a b=⟨a.k,0,0,0,0,0,0,G3 t a b,G2 t a b⟩:=by unfold eh;rw[aa (by simp at h0 h1;simp[h0,h1]),aa XJ,aa (by simpa using h3)]
def SB{a b:Ty}(h:t=ZB)(h2:decide (min a.lo b.lo<a.lo)=ZB):G3 t a b = -1048576:=by unfold G3;rw[ae ⟨h,Ae h2⟩]
def SC{a b:Ty}(h2:decide (min a.lo b.lo<a.lo)=ZC):G3 t a b=min a.lo b.lo:=by unfold G3;rw[aa (fun q=>Af h2 q.2)]
def asK{a b:Ty}(h:t=ZC):G3 t a b=min a.lo b.lo:=by unfold G3;rw[aa (fun q=>by rw[h]at q;cases q.1)]
def SI{a b:Ty}(h:t=ZB)(h2:decide (a.hi<max a.hi b.hi)=ZB):G2 t a b=1048576:=by unfold G2;rw[ae ⟨h,Ae h2⟩]
def SJ{a b:Ty}(h2:decide (a.hi<max a.hi b.hi)=ZC):G2 t a b=max a.hi b.hi:=by unfold G2;rw[aa (fun q=>Af h2 q.2)]
def asQ{a b:Ty}(h:t=ZC):G2 t a b=max a.hi b.hi:=by unfold G2;rw[aa (fun q=>by rw[h]at q;cases q.1)]
def oC{w:Bool}{a b:Sta}(h:AV a=ZB)(h2:AV b=ZB):iQ w a b=Lu w a b/\Fy a b=0:=⟨ae ⟨h,h2⟩,ae ⟨h,h2⟩⟩
def wC{w:Bool}{a b:Sta}(h:AV a=ZC\/AV b=ZC):iQ w a b=Kz/\Fy a b=2:=by
 have:¬(AV a=ZB/\AV b=ZB):=by rcases h with h|h<;>simp[h]
 exact⟨aa this,aa this⟩
def Hx(b:Ty):Bool:=(b.k==tscal.k)&&((b.ul==tscal.ul)&&((b.uh==tscal.uh)&&((b.sl==tscal.sl)&&((b.sh==tscal.sh)&&((b.v==tscal.v)&&((b.m==tscal.m)&&((b.lo==tscal.lo)&&(b.hi==tscal.hi))))))))
def KO(a b:Ty):Bool:=
 if(b.k==0)=ZB then ZB else if(a.k==0)=ZB then ZC else if Hx b=ZB then ZB else if(a.k==b.k)=ZC then ZC
 else if(a.k==1)=ZB then(ME a.s.r b.s.r&&Jw a.s.k b.s.k)else(decide (b.lo<=a.lo)&&decide (a.hi<=b.hi))
def avr{a b:Ty}(h:(b.k==0)=ZB):KO a b=ZB:=by unfold KO;rw[ae h]
def asH{a b:Ty}(h:(b.k==0)=ZC)(h1:(a.k==0)=ZC)(h2:Hx b=ZB):KO a b=ZB:=by unfold KO;rw[aa XX,aa (by rw[h1];simp),ae h2]
def avq{a b:Ty}(h:(b.k==0)=ZC)(h1:(a.k==0)=ZC)(h2:Hx b=ZC)(h3:(a.k==b.k)=ZB)(h4:(a.k==1)=ZB):KO a b=(ME a.s.r b.s.r&&Jw a.s.k b.s.k):=by unfold KO;rw[aa XX,aa (by rw[h1];simp),aa (by rw[h2];simp),aa (by rw[h3];simp),ae h4]
def avp{a b:Ty}(h:(b.k==0)=ZC)(h1:(a.k==0)=ZC)(h2:Hx b=ZC)(h3:(a.k==b.k)=ZB)(h4:(a.k==1)=ZC):KO a b=(decide (b.lo<=a.lo)&&decide (a.hi<=b.hi)):=by unfold KO;rw[aa XX,aa (by rw[h1];simp),aa (by rw[h2];simp),aa (by rw[h3];simp),aa (by rw[h4];simp)]
def or_zero(h1:0<=x)(h2:x<=18446744073709551615)(h3:0<=y)(h4:y<=18446744073709551615):(bits .or .u64 x y==0)=((x==0)&&(y==0)):=by
 obtain⟨a,rfl⟩:=cj h1;obtain⟨b,rfl⟩:=cj h3;rw[u64_or_nat a b Fn Fn,ar];simp only[cb,ne];constructor
 .intro h;have h5:a ||| b=0:=by exact_mod_cast h
  have h6:=Nat.or_eq_zero_iff.1 h5;omega
 .rintro ⟨h,h'⟩;obtain rfl:a=0:=Fn;obtain rfl:b=0:=Fn;rfl
def aqu(h:n<=64):(1:Int)<=2 ^ n/\(2:Int) ^ n<=2 ^ 64:=by have h1:(1:Nat)<=2 ^ n:=Nat.one_le_two_pow;have h2:(2:Nat) ^ n<=2 ^ 64:=YY Fn h;exact⟨by exact_mod_cast h1,by exact_mod_cast h2⟩
def vC(x n:Nat)(hn:n<=64)(hx:x<2 ^ 64):x &&& (18446744073709551615-(2 ^ n-1))=0↔x / 2 ^ n=0:=by
 have hp:(2:Nat) ^ n<=2 ^ 64:=YY Fn hn;have hq:1<=(2:Nat) ^ n:=Nat.one_le_two_pow;have e:18446744073709551615-(2 ^ n-1)=2 ^ 64-((2 ^ n-1)+1):=Fn;have Ap:2 ^ n-1<2 ^ 64:=Fn;constructor
 .intro h;rw[<-Nat.shiftRight_eq_div_pow];apply Nat.eq_of_testBit_eq;intro i;rw[Nat.testBit_shiftRight,Nat.zero_testBit];have h1:=congrArg (fun y=>Nat.testBit y (n+i)) h;simp only[Nat.zero_testBit,Nat.testBit_and,e,Nat.testBit_two_pow_sub_succ Ap,Nat.testBit_two_pow_sub_one]at h1;by_cases h64:n+i<64
  .by_cases hb:Nat.testBit x (n+i)=ZB
   .exfalso;simp[h64,hb]at h1;omega
   .simpa using hb
  .exact Nat.testBit_lt_two_pow (nD hx (YY Fn Fn))
 .intro h;apply Nat.eq_of_testBit_eq;intro i;rw[Nat.zero_testBit,Nat.testBit_and,e,Nat.testBit_two_pow_sub_succ Ap,Nat.testBit_two_pow_sub_one];by_cases hi:i<n
  .simp[hi]
  .have h2:Nat.testBit x i=ZC:=by
    have:=congrArg (fun y=>Nat.testBit y (i-n)) (Nat.shiftRight_eq_div_pow x n▸h);simp only[Nat.testBit_shiftRight,Nat.zero_testBit]at this;rwa [show n+(i-n)=i from by omega]at this
   simp[h2]
def oy{x y:Nat}:x ^^^ y=0↔x=y:=by
 constructor
 .intro h;apply Nat.eq_of_testBit_eq;intro i;have:=congrArg (fun z=>Nat.testBit z i) h;simp only[Nat.testBit_xor,Nat.zero_testBit]at this;cases hx:Nat.testBit x i<;>cases hy:Nat.testBit y i<;>simp_all
 .rintro rfl;simp
def acS(lo hi:Int)(n:Nat)(hn:n<=64)(h1:0<=lo)(h2:lo<=18446744073709551615)(h3:0<=hi)(h4:hi<=18446744073709551615):
  bits .andNot .u64 (bits .xor .u64 lo hi) (2 ^ n-1)=0↔lo / 2 ^ n=hi / 2 ^ n:=by
 obtain⟨a,rfl⟩:=cj h1;obtain⟨b,rfl⟩:=cj h3;have hp:(2:Nat) ^ n<=2 ^ 64:=YY Fn hn;have hq:1<=(2:Nat) ^ n:=Nat.one_le_two_pow;have ha:a<2 ^ 64:=Fn;have hb:b<2 ^ 64:=Fn;have hxl:a ^^^ b<2 ^ 64:=Nat.xor_lt_two_pow ha hb;have hm:((2:Int) ^ n-1)=((2 ^ n-1:Nat):Int):=by rw[Int.ofNat_sub hq];simp
 rw[u64_xor_nat a b Fn Fn,hm,u64_andNot_nat (a ^^^ b) (2 ^ n-1) Fn Fn];rw[show((2:Int) ^ n)=((2 ^ n:Nat):Int)from by simp];constructor
 .intro h;have h5:=(vC (a ^^^ b) n hn hxl).1 (by exact_mod_cast h);rw[<-Nat.shiftRight_eq_div_pow,Nat.shiftRight_xor_distrib,oy,Nat.shiftRight_eq_div_pow,Nat.shiftRight_eq_div_pow]at h5
  exact_mod_cast h5
 .intro h;have h5:a / 2 ^ n=b / 2 ^ n:=by exact_mod_cast h
  have h6:=(vC (a ^^^ b) n hn hxl).2 (by rw[<-Nat.shiftRight_eq_div_pow,Nat.shiftRight_xor_distrib,oy,Nat.shiftRight_eq_div_pow,Nat.shiftRight_eq_div_pow];exact h5)
  exact_mod_cast h6
structure Rw(P:Program)(t:TypeId)(ks:List CE):Prop where
 cells:P.cellsOf t=ks.length
 opn:∀{H:Type} {enc:TypeId×Value->H} {W:World} {sp:Nat->Bool} {hd:Bool} {fuel:Nat} {cs:List Value} {d:DataW H×List MemPlace},
  DataW.trod enc P W 0 sp hd fuel t cs=ZA d->∃r,cs=Ax ks r/\aq ks r=ZB
def mU{k:IntKind}(h:(Lit.int k x).wf=ZB):Aj k x=ZB:=by simp only[Lit.wf,ne,ax]at h;rw[bl];exact h
def Rw.int{t:TypeId}(k:IntKind)(ht:P.underlying t=ZA (.int k))(hc:P.cellsOf t=1):Rw P t [ZA k] where
 cells:=hc
 opn:=fun h=>by obtain⟨x,h1,_,h2⟩:=DataW.trod_int ht h;exact⟨[x],h1,by simp[aq,CV,mU h2]⟩
def Rw.bool{t:TypeId}(ht:P.underlying t=ZA .bool)(hc:P.cellsOf t=1):Rw P t [ZD] where
 cells:=hc
 opn:=fun h=>by obtain⟨x,h1,_⟩:=DataW.trod_bool ht h;exact⟨[Ay x],by cases x<;>exact h1,by cases x<;>rfl⟩
def uF:∀{ks ks':List CE} {r r':List Int},aq ks r=ZB->Ax (ks++ks') (r++r')=Ax ks r++Ax ks' r'
 |[],ks',[],r',_=>rfl
 |k::ks,ks',x::r,r',h=>by simp only[aq,ne]at h;simp only[YN,Ax,uF h.2]
def qw:∀{ks ks':List CE} {r r':List Int},aq ks r=ZB->aq ks' r'=ZB->aq (ks++ks') (r++r')=ZB
 |[],ks',[],r',_,h=>h
 |k::ks,ks',x::r,r',h,h'=>by simp only[aq,ne]at h;simp only[YN,aq,h.1,qw h.2 h',Bool.and_self]
structure RwSeq(P:Program)(off:Nat)(fs:List Field)(ks:List CE):Prop where
 opn:∀{H:Type} {enc:TypeId×Value->H} {W:World} {sp:Nat->Bool} {hd:Bool} {n:Nat} {cs:List Value},
  (∀f∈fs,∃y,DataW.trod enc P W 0 sp hd n f.type ((cs.drop f.offset).take (P.cellsOf f.type))=ZA y)->cs.length=off+ks.length->∃r,cs.drop off=Ax ks r/\aq ks r=ZB
def RwSeq.nil(P:Program)(off:Nat):RwSeq P off [] []:=⟨fun _ hl=>⟨[],List.drop_eq_nil_of_le (by simp at hl;omega),rfl⟩⟩
def RwSeq.cons{off:Nat}{f:Field}{fs:List Field}{ks':List CE}(r:Rw P f.type ks)(ho:f.offset=off)(s:RwSeq P (off+ks.length) fs ks'):RwSeq P off (f::fs) (ks++ks'):=⟨fun {H} {enc} {W} {sp} {hd} {n} {cs} h hl=>by
  obtain⟨y,hy⟩:=h f (by simp);rw[r.cells,ho]at hy;obtain⟨a,ha,CN⟩:=r.opn hy;obtain⟨b,hb,D8⟩:=s.opn (fun g hg=>h g (by simp[hg])) (by simp at hl;omega);refine⟨a++b,?_,qw CN D8⟩;rw[uF CN,<-ha,<-hb,<-List.drop_drop,List.take_append_drop]⟩
def Rw.struct{t:TypeId}{fs:Array Field}(s:RwSeq P 0 fs.toList ks)(ht:P.underlying t=ZA (.struct fs))(hc:P.cellsOf t=ks.length):Rw P t ks where
 cells:=hc
 opn:=fun {H} {enc} {W} {sp} {hd} {fuel} {cs} {d} h=>by
  obtain⟨xs,n,_,_,hl,AE,hf⟩:=DataW.trod_struct ht h;have:=s.opn (enc:=enc) (W:=W) (sp:=sp) (hd:=hd) (n:=n) (cs:=cs) (fun f hm=>by
   obtain⟨i,hi,he⟩:=List.getElem_of_mem hm;have A6:i<fs.size:=XM;have h1:=hf i f (by rw[Array.getElem?_eq_getElem A6];simpa using congrArg ZA he);rw[Az Fn]at h1;exact⟨_,h1⟩) Fn
  simpa using this
def ack{α:Type}{Q:Nat->α->Prop}(h:∀i,i<n->∃x,Q i x):∃l:List α,l.length=n/\∀i x,l[i]? =ZA x->Q i x:=by
 induction n with
 |zero=>exact⟨[],rfl,by simp⟩
 |succ n ih=>
   obtain⟨l,hl,hq⟩:=ih (fun i hi=>h i Fn);obtain⟨x,hx⟩:=h n Fn;refine⟨l++[x],by simp[hl],fun i y hy=> ?_⟩;rw[List.getElem?_append]at hy;split at hy
   .exact hq i y hy
   .have:i=n:=by
     rcases bn (i-l.length) 1 with h1|h1
     .exact Fn
     .rw[bN XC]at hy;cases hy
    subst this;have:i-l.length=0:=Fn;rw[this]at hy;simp at hy;subst hy;exact hx
def acV{W:World}{a:Addr}{cs:List Value}(h:W.cells? 0 a n=ZA cs)(hn:0<n):a.block<W.heap.size/\a.spot=ZD:=by
 obtain⟨_,AE,CU⟩:=World.cells?_some h;have h0:=CU 0 hn;rw[Az Fn]at h0;obtain⟨b,off,spot⟩:=a;have hs:spot=ZD:=by
  cases spot with
  |none=>rfl
  |some s=>exfalso;simp[Addr.add,World.cell?]at h0;split at h0<;>simp at h0
 subst hs;refine⟨?_,rfl⟩;rcases bn b W.heap.size with h1|h1
 .exact h1
 .simp[Addr.add,World.cell?,Array.getElem?_eq_none h1]at h0
def wy{t e:TypeId}(r:Rw P e ks)(Ej:0<ks.length)(ht:P.underlying t=ZA (.slice e)){H:Type}{enc:TypeId×Value->H}{W:World}{hd:Bool}{v:Value}{d:DataW H}{p:List MemPlace}{rc:Reach}{b0:Nat}(hv:Value.okWide P W rc b0 t v)(h:DataW.Trod enc P W 0 (fun _=>ZB) hd t v d p):∃L s,v=s.v/\s.n=L.length/\RdRow W ks.length s (flat ks L)/\RowsIn ks L/\∀k,s.blk ZC=ZA k->k<W.heap.size:=by
 obtain⟨fuel,hf⟩:=h;obtain⟨a0,Ht,IR,rfl⟩:=okWide_slice ht hv;have CJ:(Value.slice a0 Ht IR).cells.toList=[.slice a0 Ht IR]:=rfl;rw[CJ]at hf;rcases Go.Deep.open_slice ht hf with⟨h1,_⟩|⟨a,len,Fg,m,n,D,Pl,h1,_,hl,hm,hmm,_,M9⟩
 .simp only[AY,Value.slice.injEq,and_true]at h1;obtain⟨rfl,rfl,rfl⟩:=h1;exact⟨[],⟨ZD,0,0,[]⟩,rfl,rfl,⟨by simp[flat],Nat.le_refl _,by simp[maxLen],fun _=>⟨rfl,rfl⟩,fun a ha=>(by cases ha)⟩,⟨fun r hr=>(by cases hr),by simp⟩,fun k hk=>by have:=ay hk;cases this⟩
 .simp only[AY,Value.slice.injEq,and_true]at h1;obtain⟨rfl,rfl,rfl⟩:=h1;have hmc:m=IR:=by rw[hmm];rfl
  subst hmc;rw[r.cells]at M9;have key:∀i,i<Ht->∃x,W.cells? 0 (a.add (i*ks.length)) ks.length=ZA (Ax ks x)/\aq ks x=ZB:=fun i hi=>by obtain⟨Gc,h1,h2⟩:=M9 i Fn;obtain⟨x,hx,ER⟩:=r.opn h2;exact⟨x,by rw[<-hx];exact h1,ER⟩
  obtain⟨L,hL,hq⟩:=ack key;have AG:∀x∈L,aq ks x=ZB:=fun x hx=>by obtain⟨i,hi,he⟩:=List.getElem_of_mem hx;exact(hq i x (by rw[Az hi,he])).2
  refine⟨L,⟨ZA a,Ht,m,[]⟩,rfl,hL.symm,⟨?_,hl,hm,fun ha=>(by cases ha),fun a' CN i u hu=> ?_⟩,⟨AG,by rw[hL];exact cO hl hm⟩,fun k hk=> ?_⟩
  .rw[bt AG,hL]
  .cases CN;have Ap:i<(flat ks L).length:=(bX.1 hu).1;rw[bt AG]at Ap;have hi:i / ks.length<L.length:=Nat.div_lt_of_lt_mul (by rw[Nat.mul_comm];exact Ap);have hc:i % ks.length<ks.length:=Nat.mod_lt _ Ej;have e1:i=i / ks.length*ks.length+i % ks.length:=by rw[Nat.mul_comm];exact(Nat.div_add_mod _ _).symm
   rw[e1,mX (Az hc) AG hi]at hu;obtain⟨q1,q2⟩:=hq (i / ks.length) L[i / ks.length] (Az hi);obtain⟨_,AE,CU⟩:=World.cells?_some q1;have h3:=CU (i % ks.length) hc;rw[pi q2 (Az hc)]at h3;have hg:L.getD (i / ks.length) []=L[i / ks.length]:=by rw[bh,Az hi];rfl
   rw[hg]at hu;rw[e1,<-bC,h3];exact hu
  .have hc:m≠0:=fun hc=>by
    unfold SV.blk at hk;simp[hc]at hk
   obtain⟨Gc,h1,h2⟩:=M9 0 Fn;have h4:=acV h1 Ej;have h5:=ay hk;simp only[SV.v,Value.ownBlock,aU]at h5;rw[<-h5];have:(a.add (0*ks.length)).block=a.block:=Yz;rw[<-this];exact h4.1
def oZ{ρ ρ':Env}{m:Nat}(h:Ag m ρ ρ'):∀(vks:List VK) (n:Nat),n+vks.length<=m->varsD ρ' n vks=varsD ρ n vks
 |[],_,_=>rfl
 |k::vks,n,hn=>by simp only[List.length_cons]at hn;have h1:=h n Fn;simp only[varsD,oZ h vks (n+1) Fn];congr 1;cases k<;>simp only[varD,h1.1,h1.2.1,h1.2.2]
def aeK{a b:Rg}(ha:a.wf)(hb:b.wf)(ma:AS a=ZB)(mb:AS b=ZB)(hc:Bu cc a b=ZB):(BQ cc a b).wf:=by
 rw[dj]at ma mb;have sv:=gf b.ul;obtain⟨a1,a2,a3,a4⟩:=ha;obtain⟨b1,b2,b3,b4⟩:=hb;unfold Bu at hc;unfold BQ;generalize BY b.ul=t at *;by_cases c1:cc=1
 .rw[ae c1]at hc ⊢;by_cases hs:eH b=ZB
  .rw[ae hs]at hc ⊢;simp only[ne,ZL,mf]at hc;refine⟨?_,?_,?_,?_⟩<;>simp only<;>split<;>omega
  .rw[aa hs];exact⟨a1,a2,a3,a4⟩
 rw[aa c1]at hc ⊢;by_cases c2:cc=2
 .rw[ae c2]at hc ⊢;simp only[ZL,mf]at hc;exact⟨by simp only;omega,a2,a3,a4⟩
 rw[aa c2]at hc ⊢;by_cases c3:cc=3
 .rw[ae c3];exact⟨by simp only;omega,a2,a3,a4⟩
 rw[aa c3];by_cases c4:cc=4
 .rw[ae c4]at hc ⊢;simp only[ZL,mf]at hc;exact⟨a1,by simp only;omega,a3,a4⟩
 rw[aa c4]at hc ⊢;by_cases c5:cc=5
 .rw[ae c5];exact⟨a1,by simp only;omega,a3,a4⟩
 rw[aa c5];by_cases c6:cc=6
 .rw[ae c6]at hc ⊢;simp only[ZL,mf]at hc;exact⟨a1,a2,by simp only;omega,a4⟩
 rw[aa c6]at hc ⊢;by_cases c7:cc=7
 .rw[ae c7];exact⟨a1,a2,by simp only;omega,a4⟩
 rw[aa c7];by_cases c8:cc=8
 .rw[ae c8]at hc ⊢;simp only[ZL,mf]at hc;exact⟨a1,a2,a3,by simp only;omega⟩
 rw[aa c8];by_cases c9:cc=9
 .rw[ae c9];exact⟨a1,a2,a3,by simp only;omega⟩
 rw[aa c9];exact⟨a1,a2,a3,a4⟩
def zs(v w:Int):Int:=wrap64 (gG (Ar v w) w)
def D6(a b:Int):Int:=if a<b then -1 else if b<a then 1 else 0
def lh(cc w a b:Int):Bool:=
 if cc=0 then Ar a w==Ar b w
 else if cc=1 then Ar a w != Ar b w
 else if cc=2 then decide (Ar b w<Ar a w)
 else if cc=3 then decide (Ar b w<=Ar a w)
 else if cc=4 then decide (Ar a w<Ar b w)
 else if cc=5 then decide (Ar a w<=Ar b w)
 else if cc=6 then decide (zs b w<zs a w)
 else if cc=7 then decide (zs b w<=zs a w)
 else if cc=8 then decide (zs a w<zs b w)
 else if cc=9 then decide (zs a w<=zs b w)
 else bits .and .u64 (Ar a w) (Ar b w) != 0
def alm(a b:Int)(w:World):
  Calls ZF 155 #[.int .u64 a,.int .u64 b] w fun e w'=>e=.returned (.int .i64 (D6 a b))/\w=w':=by
 go_enter func155,ntmps155
 go_wp2
 all_goals go_ret
 all_goals (refine⟨bD ?_,rfl⟩;simp only[D6])
 all_goals (repeat' split)<;>first|rfl|omega
def aln(a b:Int)(w:World):
  Calls ZF 156 #[.int .i64 a,.int .i64 b] w fun e w'=>e=.returned (.int .i64 (D6 a b))/\w=w':=by
 go_enter func156,ntmps156
 go_wp2
 all_goals go_ret
 all_goals (refine⟨bD ?_,rfl⟩;simp only[D6])
 all_goals (repeat' split)<;>first|rfl|omega
def ic0(W:World)(x0 x1 x2 x3 x4 x5 x6 x7 x8 x9:Value):(ZZ 235 (.agg #[x0,x1,x2,x3,x4,x5,x6,x7,x8,x9]) (.int .i8 0)).run ZF W=.ok x0 W:=by kernel_rfl
def ic1(W:World)(x0 x1 x2 x3 x4 x5 x6 x7 x8 x9:Value):(ZZ 235 (.agg #[x0,x1,x2,x3,x4,x5,x6,x7,x8,x9]) (.int .i8 1)).run ZF W=.ok x1 W:=by kernel_rfl
def ic2(W:World)(x0 x1 x2 x3 x4 x5 x6 x7 x8 x9:Value):(ZZ 235 (.agg #[x0,x1,x2,x3,x4,x5,x6,x7,x8,x9]) (.int .i8 2)).run ZF W=.ok x2 W:=by kernel_rfl
def ic3(W:World)(x0 x1 x2 x3 x4 x5 x6 x7 x8 x9:Value):(ZZ 235 (.agg #[x0,x1,x2,x3,x4,x5,x6,x7,x8,x9]) (.int .i8 3)).run ZF W=.ok x3 W:=by kernel_rfl
def ic4(W:World)(x0 x1 x2 x3 x4 x5 x6 x7 x8 x9:Value):(ZZ 235 (.agg #[x0,x1,x2,x3,x4,x5,x6,x7,x8,x9]) (.int .i8 4)).run ZF W=.ok x4 W:=by kernel_rfl
def ic5(W:World)(x0 x1 x2 x3 x4 x5 x6 x7 x8 x9:Value):(ZZ 235 (.agg #[x0,x1,x2,x3,x4,x5,x6,x7,x8,x9]) (.int .i8 5)).run ZF W=.ok x5 W:=by kernel_rfl
def ic6(W:World)(x0 x1 x2 x3 x4 x5 x6 x7 x8 x9:Value):(ZZ 235 (.agg #[x0,x1,x2,x3,x4,x5,x6,x7,x8,x9]) (.int .i8 6)).run ZF W=.ok x6 W:=by kernel_rfl
def ic7(W:World)(x0 x1 x2 x3 x4 x5 x6 x7 x8 x9:Value):(ZZ 235 (.agg #[x0,x1,x2,x3,x4,x5,x6,x7,x8,x9]) (.int .i8 7)).run ZF W=.ok x7 W:=by kernel_rfl
def ic8(W:World)(x0 x1 x2 x3 x4 x5 x6 x7 x8 x9:Value):(ZZ 235 (.agg #[x0,x1,x2,x3,x4,x5,x6,x7,x8,x9]) (.int .i8 8)).run ZF W=.ok x8 W:=by kernel_rfl
def ic9(W:World)(x0 x1 x2 x3 x4 x5 x6 x7 x8 x9:Value):(ZZ 235 (.agg #[x0,x1,x2,x3,x4,x5,x6,x7,x8,x9]) (.int .i8 9)).run ZF W=.ok x9 W:=by kernel_rfl
def amq(h4:0<=op)(h5:op<=10):op=0\/op=1\/op=2\/op=3\/op=4\/op=5\/op=6\/op=7\/op=8\/op=9\/op=10:=by omega
attribute [local go_sem] ic0 ic1 ic2 ic3 ic4 ic5 ic6 ic7 ic8 ic9
def ant(a b:Int):(D6 a b==0)=(a==b):=by unfold D6;rw[ar];simp only[cb];(repeat' split)<;>omega
def ate(a b:Int):(D6 a b != 0)=(a != b):=by rw[bne,bne,ant]
def anq(a b:Int):decide (0<D6 a b)=decide (b<a):=by unfold D6;rw[decide_eq_decide];(repeat' split)<;>omega
def anr(a b:Int):decide (0<=D6 a b)=decide (b<=a):=by unfold D6;rw[decide_eq_decide];(repeat' split)<;>omega
def ano(a b:Int):decide (D6 a b<0)=decide (a<b):=by unfold D6;rw[decide_eq_decide];(repeat' split)<;>omega
def anp(a b:Int):decide (D6 a b<=0)=decide (a<=b):=by unfold D6;rw[decide_eq_decide];(repeat' split)<;>omega
def aiF(cc w1 a b:Int)(w:World)(h0:0<=a)(h1:a<=18446744073709551615)(h2:0<=b)(h3:b<=18446744073709551615)(h4:0<=cc)(h5:cc<=10)(hw:iJ w1=ZB):
  Calls ZF 127 #[.int .i8 cc,.int .i8 w1,.int .u64 a,.int .u64 b] w fun e w'=>e=.returned (.tuple #[.bool (lh cc w1 a b),.int .i64 0])/\w=w':=by
 obtain⟨A7,DO⟩:=dJ a w1 h0 h1;obtain⟨JP,Ds⟩:=dJ b w1 h2 h3;rcases amq h4 h5 with rfl|rfl|rfl|rfl|rfl|rfl|rfl|rfl|rfl|rfl|rfl
 all_goals
  go_enter func127,ntmps127
  go_wp2_with (first
   |(go_at_call 130;refine(pq _ _).mono ?_;rintro e w' ⟨rfl,rfl⟩)
   |(go_at_call 131;with_reducible refine(vt a _ _ Fn Fn).mono ?_;rintro e w' ⟨rfl,rfl⟩)
   |(go_at_call 131;with_reducible refine(vt b _ _ Fn Fn).mono ?_;rintro e w' ⟨rfl,rfl⟩)
   |(go_at_call 157;refine(abc _ _ _ Fn Fn).mono ?_;rintro e w' ⟨rfl,rfl⟩)
   |(go_at_call 155;refine(alm _ _ _).mono ?_;rintro e w' ⟨rfl,rfl⟩)
   |(go_at_call 156;refine(aln _ _ _).mono ?_;rintro e w' ⟨rfl,rfl⟩)
   |fail)
  go_ret2
  refine⟨?_,rfl⟩
  first
   |(simp[lh,zs,ant,ate,anq,anr,ano,anp];done)
   |(simp[lh,zs,anq,anr,ano,anp];rw[ar];simp;exact decide_eq_true_iff.symm)
def aiE(op w1 a b:Int)(w:World)(JR:(decide (op<0)||decide (10<op) ||!iJ w1)=ZB):
  Calls ZF 127 #[.int .i8 op,.int .i8 w1,.int .u64 a,.int .u64 b] w fun e w'=>e=.returned (.tuple #[.bool ZC,.int .i64 2])/\w=w':=by
 have hc:op<0\/(0<=op/\10<op)\/(0<=op/\op<=10/\iJ w1=ZC):=by
  by_cases h1:op<0
  .exact .inl h1
  .by_cases h2:10<op
   .exact .inr (.inl ⟨by omega,h2⟩)
   .exact .inr (.inr ⟨by omega,by omega,by simpa[h1,h2]using JR⟩)
 clear JR;rcases hc with h|⟨h,h'⟩|⟨h,h',hw⟩
 all_goals
  go_enter func127,ntmps127
  go_wp2_with (go_at_call 130;refine(pq _ _).mono ?_;rintro e w' ⟨rfl,rfl⟩)
  go_ret2
  exact⟨rfl,rfl⟩
def asx(v:Int):zs v 64=BY v:=by simp[zs,Ar,gG]
def yq(h:lh cc 64 v w=ZB):Mx cc v w=ZB:=by
 unfold lh at h;rw[dK,dK,asx,asx]at h;unfold Mx;by_cases c0:cc=0
 .rw[ae c0]at h ⊢;simpa using h
 rw[aa c0]at h ⊢;by_cases c1:cc=1
 .rw[ae c1]at h ⊢;simpa using h
 rw[aa c1]at h ⊢;by_cases c2:cc=2
 .rw[ae c2]at h ⊢;exact h
 rw[aa c2]at h ⊢;by_cases c3:cc=3
 .rw[ae c3]at h ⊢;exact h
 rw[aa c3]at h ⊢;by_cases c4:cc=4
 .rw[ae c4]at h ⊢;exact h
 rw[aa c4]at h ⊢;by_cases c5:cc=5
 .rw[ae c5]at h ⊢;exact h
 rw[aa c5]at h ⊢;by_cases c6:cc=6
 .rw[ae c6]at h ⊢;exact h
 rw[aa c6]at h ⊢;by_cases c7:cc=7
 .rw[ae c7]at h ⊢;exact h
 rw[aa c7]at h ⊢;by_cases c8:cc=8
 .rw[ae c8]at h ⊢;exact h
 rw[aa c8]at h ⊢;by_cases c9:cc=9
 .rw[ae c9]at h ⊢;exact h
 rw[aa c9]
def amv{a b:Rg}(h:Cz cc a b=ZB):jy cc a b=ZB:=by unfold Cz at h;rw[ne]at h;exact h.1
def arN{a b:Rg}(ha:a.wf)(hb:b.wf)(v0:0<=v)(v1:v<=18446744073709551615)(w0:0<=w)(w1:w<=18446744073709551615)(h1:AI a v=ZB)(h2:AI b w=ZB)(c0:0<=cc)(c1:cc<=10)(hy:Mx cc v w=ZB):Cz cc a b=ZB/\AI (CY cc a b) v=ZB:=by
 have hg:jy cc a b=ZB:=by unfold jy;rw[cU h1,cU h2,cP c0,cP c1];rfl
 by_cases c:cc=0
 .have e:v=w:=by
   unfold Mx at hy;rw[ae c]at hy;exact Ae hy
  subst e;have hm:=acC ha hb v0 v1 h2;rw[h1]at hm;have hm:=hm.symm;rw[ne]at hm;have hk:Cz cc a b=ZB:=by unfold Cz;rw[hg,ae c,hm.1];rfl
  refine⟨hk,?_⟩;unfold CY;rw[ae hk,ae c];exact hm.2
 .have hr:=aqq v0 v1 w0 w1 hb h1 h2 hy c;have hw:=aeK ha hb (cU h1) (cU h2) hr.1;have hn:=vz hw v0 v1 hr.2;have hk:Cz cc a b=ZB:=by
   unfold Cz;rw[hg,aa c,hr.1,hn];rfl
  refine⟨hk,?_⟩;unfold CY;rw[ae hk,aa c,rF hw v0 v1 hn];exact hr.2
def tb(x:Int)(i:Nat):Bool:=(ZJ 64 x).getLsbD i
def ni(h0:0<=x)(h1:x<=18446744073709551615):((ZJ 64 x).toNat:Int)=x:=by rw[BitVec.toNat_ofInt];omega
def auX(h0:0<=x)(h1:x<=18446744073709551615)(h2:0<=y)(h3:y<=18446744073709551615)(h:ZJ 64 x=ZJ 64 y):x=y:=by rw[<-ni h0 h1,<-ni h2 h3,h]
def RA(hx:0<=x/\x<=18446744073709551615)(hy:0<=y/\y<=18446744073709551615)(h:∀i,i<64->tb x i=tb y i):x=y:=auX hx.1 hx.2 hy.1 hy.2 (BitVec.eq_of_getLsbD_eq fun i hi=>h i hi)
def dc(x:Int):ZJ 64 (ZG .u64 x)=ZJ 64 x:=by apply BitVec.eq_of_toNat_eq;rw[BitVec.toNat_ofInt,BitVec.toNat_ofInt,bg];omega
def RZ(x:BitVec 64):ZJ 64 (x.toNat:Int)=x:=by simp
def auY(x y:Int):ZJ 64 (bits .and .u64 x y)=ZJ 64 x &&& ZJ 64 y:=(dc _).trans (RZ _)
def auW(x y:Int):ZJ 64 (bits .or .u64 x y)=ZJ 64 x ||| BitVec.ofInt 64 y:=(dc _).trans (RZ _)
def auV(x y:Int):ZJ 64 (bits .xor .u64 x y)=ZJ 64 x ^^^ ZJ 64 y:=(dc _).trans (RZ _)
def ajs(x y:Int):ZJ 64 (bits .andNot .u64 x y)=ZJ 64 x &&& ~~~ ZJ 64 y:=(dc _).trans (RZ _)
def jG(x y:Int)(i:Nat):tb (bits .and .u64 x y) i=(tb x i&&tb y i):=by unfold tb;rw[auY,BitVec.getLsbD_and]
def fM(x y:Int)(i:Nat):tb (bits .or .u64 x y) i=(tb x i||tb y i):=by unfold tb;rw[auW,BitVec.getLsbD_or]
def mg(x y:Int)(i:Nat):tb (bits .xor .u64 x y) i=(tb x i ^^ tb y i):=by unfold tb;rw[auV,BitVec.getLsbD_xor]
def cJ(x y:Int)(hi:i<64):tb (bits .andNot .u64 x y) i=(tb x i &&!tb y i):=by unfold tb;rw[ajs,BitVec.getLsbD_and,BitVec.getLsbD_not];simp[hi]
def ia(i:Nat):tb 0 i=ZC:=by unfold tb;simp
def apP(hi:i<64):tb 18446744073709551615 i=ZB:=by unfold tb;rw[show ZJ 64 18446744073709551615=BitVec.allOnes 64 from by decide,BitVec.getLsbD_allOnes];exact cP hi
def yO(hx:0<=x/\x<=18446744073709551615)(hy:0<=y/\y<=18446744073709551615):(x==y)=ZB↔∀i,i<64->tb x i=tb y i:=by rw[cb];exact⟨fun h i _=>by rw[h],RA hx hy⟩
def nu:(0:Int)<=0/\(0:Int)<=18446744073709551615:=by omega
def eY(a:Kn):Bz a=ZB↔∀i,i<64->(tb a.v i&&tb a.m i)=ZC:=by unfold Bz;rw[yO (iH _ _) nu];simp only[jG,ia]
def bk{a:Kn}(ha:a.wf)(x:Int):AU a x=ZB↔∀i,i<64->(tb a.v i&&tb a.m i)=ZC/\(tb x i &&!tb a.m i)=tb a.v i:=by
 unfold AU;rw[ne,eY,yO (eJ _ _) ha.1];constructor
 .rintro ⟨h1,h2⟩ i hi;exact⟨h1 i hi,by have:=h2 i hi;rwa [cJ _ _ hi]at this⟩
 .intro h;exact⟨fun i hi=>(h i hi).1,fun i hi=>by rw[cJ _ _ hi];exact(h i hi).2⟩
def aih{a b:Kn}(hb:b.wf):Jw a b=ZB↔∀i,i<64->(tb a.v i&&tb a.m i)=ZC/\(tb b.v i&&tb b.m i)=ZC/\(tb a.m i||tb b.m i)=tb b.m i/\(tb a.v i &&!tb b.m i)=tb b.v i:=by
 unfold Jw;rw[ne,ne,ne,eY,eY,yO (iV _ _) hb.2,yO (eJ _ _) hb.1];constructor
 .rintro ⟨h1,h2,h3,h4⟩ i hi;exact⟨h1 i hi,h2 i hi,by have:=h3 i hi;rwa [fM]at this,by have:=h4 i hi;rwa [cJ _ _ hi]at this⟩
 .intro h;exact⟨fun i hi=>(h i hi).1,fun i hi=>(h i hi).2.1,fun i hi=>by rw[fM];exact(h i hi).2.2.1,fun i hi=>by rw[cJ _ _ hi];exact(h i hi).2.2.2⟩
def ah9(a b:Kn):(zR a b==0)=ZB↔∀i,i<64->((tb a.v i ^^ tb b.v i) &&!(tb a.m i||tb b.m i))=ZC:=by
 unfold zR;rw[yO (eJ _ _) nu];constructor
 .intro h i hi;have:=h i hi;rwa [cJ _ _ hi,mg,fM,ia]at this
 .intro h i hi;rw[cJ _ _ hi,mg,fM,ia];exact h i hi
def sJ(a b:Kn):eN a b=ZB↔∀i,i<64->(tb a.v i&&tb a.m i)=ZC/\(tb b.v i&&tb b.m i)=ZC/\((tb a.v i ^^ tb b.v i) &&!(tb a.m i||tb b.m i))=ZC:=by unfold eN;rw[ne,ne,eY,eY,ah9];exact⟨fun h i hi=>⟨h.1 i hi,h.2.1 i hi,h.2.2 i hi⟩,fun h=>⟨fun i hi=>(h i hi).1,fun i hi=>(h i hi).2.1,fun i hi=>(h i hi).2.2⟩⟩
def xJ(v m:Int):Bz (jW v m)=ZB:=by rw[eY];intro i hi;show(tb (bits .andNot .u64 v m) i&&tb m i)=ZC;rw[cJ _ _ hi];cases tb v i<;>cases tb m i<;>rfl
def alD:Bz kall=ZB:=by rw[eY];intro i hi;show(tb 0 i&&_)=ZC;rw[ia];rfl
def mR(x:Int):AU kall x=ZB:=by rw[bk jB];intro i hi;show(tb 0 i&&tb 18446744073709551615 i)=ZC/\(tb x i &&!tb 18446744073709551615 i)=tb 0 i;rw[ia,apP hi];simp
def ve(h:0<=v/\v<=18446744073709551615):AU (Es v) v=ZB:=by rw[bk (tS h)];intro i hi;show(tb v i&&tb 0 i)=ZC/\(tb v i &&!tb 0 i)=tb v i;rw[ia];simp
def RB(h0:0<=x)(h1:x<=18446744073709551615)(hw:w=32\/w=64)(hi:i<64):tb (Ar x w) i=(decide ((i:Int)<w)&&tb x i):=by
 rcases hw with rfl|rfl
 .rw[dM];obtain⟨n,rfl⟩:=cj h0;unfold tb;rw[show((n:Int) % 4294967296)=((n % 2 ^ 32:Nat):Int)from by omega,BitVec.ofInt_natCast,BitVec.ofInt_natCast,BitVec.getLsbD_ofNat,BitVec.getLsbD_ofNat,Nat.testBit_mod_two_pow];have e:decide ((i:Int)<32)=decide (i<32):=by rw[ar];simp;omega
  rw[e];cases decide (i<64)<;>cases decide (i<32)<;>simp
 .rw[dK];simp[show(i:Int)<64 from by omega]
def atN{a:Kn}(h:Bz a=ZB)(w:Int):B1 a w=⟨Ar a.v w,Ar a.m w⟩:=by simp[B1,h]
def kC{a:Kn}(h:AU a x=ZB):Bz a=ZB:=by unfold AU at h;rw[ne]at h;exact h.1
def pu{a:Kn}(ha:a.wf)(hx:0<=x/\x<=18446744073709551615)(h:AU a x=ZB)(hw:w=32\/w=64):AU (B1 a w) (Ar x w)=ZB:=by rw[bk (jA ha w),atN (kC h)];intro i hi;have:=(bk ha x).1 h i hi;show(tb (Ar a.v w) i&&tb (Ar a.m w) i)=ZC/\(tb (Ar x w) i &&!tb (Ar a.m w) i)=tb (Ar a.v w) i;rw[RB ha.1.1 ha.1.2 hw hi,RB ha.2.1 ha.2.2 hw hi,RB hx.1 hx.2 hw hi];revert this;cases tb a.v i<;>cases tb a.m i<;>cases tb x i<;>cases decide ((i:Int)<w)<;>simp
def ah7{a:Nat}(h:∀j,a.testBit j=ZB->b.testBit j=ZB):a<=b:=by
 have:a &&& b=a:=by
  apply Nat.eq_of_testBit_eq;intro j;rw[Nat.testBit_and];cases ha:a.testBit j
  .rfl
  .rw[h j ha];rfl
 rw[<-this];exact Nat.and_le_right
def Sub64(x y:BitVec 64):Prop:=∀i,x.getLsbD i=ZB->y.getLsbD i=ZB
def Sub64.mod{x y:BitVec 64}(h:Sub64 x y)(i:Nat):x.toNat % 2 ^ i<=y.toNat % 2 ^ i:=by apply ah7;intro j hj;rw[Nat.testBit_mod_two_pow]at hj ⊢;simp only[ne]at hj ⊢;exact⟨hj.1,h j hj.2⟩
def tx{x x' y y':BitVec 64}(hx:Sub64 x x')(hy:Sub64 y y')(i:Nat)(h:BitVec.carry i x y ZC=ZB):BitVec.carry i x' y' ZC=ZB:=by have h1:=hx.mod i;have h2:=hy.mod i;simp only[BitVec.carry,ax,Bool.toNat_false]at h ⊢;omega
def JG(i:Nat)(x y:BitVec 64):Bool:=decide (x.toNat % 2 ^ i<y.toNat % 2 ^ i)
def pC{x x' y y':BitVec 64}(hx:Sub64 x' x)(hy:Sub64 y y')(i:Nat)(h:JG i x y=ZB):JG i x' y'=ZB:=by have h1:=hx.mod i;have h2:=hy.mod i;simp only[JG,ax]at h ⊢;omega
def gU(x y:BitVec 64)(hi:i<64):(x-y).getLsbD i=(x.getLsbD i ^^ (y.getLsbD i ^^ JG i x y)):=by
 have e:x=(x-y)+y:=by rw[BitVec.sub_add_cancel]
 have h1:=congrArg (fun z=>z.getLsbD i) e;simp only[BitVec.getLsbD_add hi]at h1;have hc:BitVec.carry i (x-y) y ZC=JG i x y:=by
  have hp:0<2 ^ i:=Nat.two_pow_pos i;have hd:(2:Nat) ^ 64=2 ^ i*2 ^ (64-i):=by rw[<-Nat.pow_add];congr 1;omega
  have ht:(x-y).toNat % 2 ^ i=(x.toNat % 2 ^ i+(2 ^ i-y.toNat % 2 ^ i)) % 2 ^ i:=by
   rw[BitVec.toNat_sub,hd,Nat.mod_mul_right_mod];have hy:=y.isLt;have hq:=Nat.div_add_mod y.toNat (2 ^ i);have E8:y.toNat / 2 ^ i<2 ^ (64-i):=by rw[Nat.div_lt_iff_lt_mul hp,Nat.mul_comm,<-hd];exact hy
   obtain⟨k,hk⟩:∃k,2 ^ (64-i)=y.toNat / 2 ^ i+1+k:=⟨2 ^ (64-i)-(y.toNat / 2 ^ i+1),by omega⟩
   have Ap:y.toNat % 2 ^ i<2 ^ i:=Nat.mod_lt _ hp;have e2:2 ^ i*2 ^ (64-i)-y.toNat=(2 ^ i-y.toNat % 2 ^ i)+2 ^ i*k:=by rw[hk,Nat.mul_add,Nat.mul_add,Nat.mul_one];omega
   rw[e2];have hx:=Nat.div_add_mod x.toNat (2 ^ i);rw[show 2 ^ i-y.toNat % 2 ^ i+2 ^ i*k+x.toNat=(x.toNat % 2 ^ i+(2 ^ i-y.toNat % 2 ^ i))+2 ^ i*(k+x.toNat / 2 ^ i)from by rw[Nat.mul_add];omega];rw[Nat.add_mul_mod_self_left]
  have hxl:x.toNat % 2 ^ i<2 ^ i:=Nat.mod_lt _ hp;have LW:y.toNat % 2 ^ i<2 ^ i:=Nat.mod_lt _ hp;simp only[BitVec.carry,JG,ht,Bool.toNat_false];generalize 2 ^ i=d at *;generalize x.toNat % d=r at *;generalize y.toNat % d=s at *;rw[decide_eq_decide];by_cases hrs:r<s
  .rw[Nat.mod_eq_of_lt Fn];omega
  .rw[show r+(d-s)=(r-s)+d from by omega,Nat.add_mod_right,Nat.mod_eq_of_lt Fn];omega
 rw[hc]at h1;rw[h1];cases(x-y).getLsbD i<;>cases y.getLsbD i<;>cases JG i x y<;>rfl
def Among(V M p:BitVec 64):Prop:=∀i,i<64->(V.getLsbD i&&M.getLsbD i)=ZC/\(p.getLsbD i &&!M.getLsbD i)=V.getLsbD i
def Among.low{V p:BitVec 64}(h:Among V M p):Sub64 V p:=by intro i hi;have hl:=BitVec.lt_of_getLsbD hi;have:=h i hl;revert this;rw[hi];cases M.getLsbD i<;>cases p.getLsbD i<;>simp
def Among.high{V p:BitVec 64}(h:Among V M p):Sub64 p (V ||| M):=by intro i hi;have hl:=BitVec.lt_of_getLsbD hi;have:=h i hl;revert this;rw[BitVec.getLsbD_or,hi];cases M.getLsbD i<;>cases V.getLsbD i<;>simp
def Among.at{V p:BitVec 64}(h:Among V M p)(hi:i<64)(hm:M.getLsbD i=ZC):p.getLsbD i=V.getLsbD i:=by have:=(h i hi).2;rw[hm]at this;simpa using this
def Among.or{V p:BitVec 64}(h:Among V M p):V+M=V ||| M:=by apply BitVec.add_eq_or_of_and_eq_zero;apply BitVec.eq_of_getLsbD_eq;intro i hi;rw[BitVec.getLsbD_and,(h i hi).1];simp
def asq{V p W N q:BitVec 64}(h1:Among V M p)(h2:Among W N q)(hi:i<64)(hm:M.getLsbD i=ZC)(hn:N.getLsbD i=ZC)(he:(M+N+(V+W)).getLsbD i=(V+W).getLsbD i):
  (p+q).getLsbD i=(V+W).getLsbD i:=by
 have e:M+N+(V+W)=(V ||| M)+(W ||| N):=by rw[<-h1.or,<-h2.or];ac_rfl
 rw[e,BitVec.getLsbD_add hi,BitVec.getLsbD_add hi,BitVec.getLsbD_or,BitVec.getLsbD_or,hm,hn,bo,bo]at he;have m1:=tx h1.low h2.low i;have m2:=tx h1.high h2.high i;rw[BitVec.getLsbD_add hi,BitVec.getLsbD_add hi,h1.at hi hm,h2.at hi hn];revert he m1 m2;cases BitVec.carry i V W ZC<;>cases BitVec.carry i p q ZC<;>cases BitVec.carry i (V ||| M) (W ||| N) ZC<;>cases V.getLsbD i<;>cases W.getLsbD i<;>simp
def apU{V p W N q:BitVec 64}(h1:Among V M p)(h2:Among W N q)(hi:i<64)(hm:M.getLsbD i=ZC)(hn:N.getLsbD i=ZC)(he:(V-W+M).getLsbD i=(V-W-N).getLsbD i):
  (p-q).getLsbD i=(V-W).getLsbD i:=by
 have e1:V-W+M=(V ||| M)-W:=by rw[<-h1.or];simp only[BitVec.sub_eq_add_neg];ac_rfl
 have e2:V-W-N=V-(W ||| N):=by rw[<-h2.or];simp only[BitVec.sub_eq_add_neg,BitVec.neg_add];ac_rfl
 rw[e1,e2,gU _ _ hi,gU _ _ hi,BitVec.getLsbD_or,BitVec.getLsbD_or,hm,hn,bo,bo]at he;have m1:=pC (x:=V ||| M) (x':=p) (y:=W) (y':=q) h1.high h2.low i;have m2:=pC (x:=p) (x':=V) (y:=q) (y':=W ||| N) h1.low h2.high i;have m3:=pC (x:=V ||| M) (x':=V) (y:=W) (y':=W) (fun j hj=>by rw[BitVec.getLsbD_or,hj];rfl) (fun _ h=>h) i;have m4:=pC (x:=V) (x':=V) (y:=W) (y':=W ||| N) (fun _ h=>h) (fun j hj=>by rw[BitVec.getLsbD_or,hj];rfl) i;rw[gU _ _ hi,gU _ _ hi,h1.at hi hm,h2.at hi hn];revert he m1 m2 m3 m4;cases JG i V W<;>cases JG i p q<;>cases JG i (V ||| M) W<;>cases JG i V (W ||| N)<;>cases V.getLsbD i<;>cases W.getLsbD i<;>simp
def nt{a:Kn}(ha:a.wf)(h:AU a x=ZB):Among (ZJ 64 a.v) (ZJ 64 a.m) (ZJ 64 x):=(bk ha x).1 h
def aq6{a b:Kn}(ha:a.wf)(hb:b.wf){p:Int}(hp:AU a p=ZB)(hq:AU b q=ZB)(hi:i<64)(hm:tb (Jd a b).m i=ZC):
  tb a.m i=ZC/\tb b.m i=ZC/\tb (p+q) i=tb (a.v+b.v) i:=by
 have Ge:tb (bits .or .u64 (bits .or .u64 (bits .xor .u64 (ZG .u64 (a.v+b.v)) (ZG .u64 (ZG .u64 (a.m+b.m)+ZG .u64 (a.v+b.v)))) a.m) b.m) i=ZC:=hm;rw[fM,fM,mg]at Ge;simp only[Bool.or_eq_false_iff]at Ge;obtain⟨⟨h1,h2⟩,h3⟩:=Ge;refine⟨h2,h3,?_⟩;have:=asq (nt ha hp) (nt hb hq) hi h2 h3 (by
  unfold tb at h1;rw[dc,dc,BitVec.ofInt_add,BitVec.ofInt_add,dc,dc,BitVec.ofInt_add,BitVec.ofInt_add]at h1;revert h1;cases(ZJ 64 a.m+ZJ 64 b.m+(ZJ 64 a.v+ZJ 64 b.v)).getLsbD i<;>cases(ZJ 64 a.v+ZJ 64 b.v).getLsbD i<;>simp)
 unfold tb;rw[BitVec.ofInt_add,BitVec.ofInt_add];exact this
def RY(x y:Int):ZJ 64 (x-y)=ZJ 64 x-ZJ 64 y:=by rw[Int.sub_eq_add_neg,BitVec.ofInt_add,BitVec.ofInt_neg,BitVec.sub_eq_add_neg]
def ah8{a b:Kn}(ha:a.wf)(hb:b.wf){p:Int}(hp:AU a p=ZB)(hq:AU b q=ZB)(hi:i<64)(hm:tb (FW a b).m i=ZC):
  tb a.m i=ZC/\tb b.m i=ZC/\tb (p-q) i=tb (a.v-b.v) i:=by
 have Ge:tb (bits .or .u64 (bits .or .u64 (bits .xor .u64 (ZG .u64 (ZG .u64 (a.v-b.v)+a.m)) (ZG .u64 (ZG .u64 (a.v-b.v)-b.m))) a.m) b.m) i=ZC:=hm;rw[fM,fM,mg]at Ge;simp only[Bool.or_eq_false_iff]at Ge;obtain⟨⟨h1,h2⟩,h3⟩:=Ge;refine⟨h2,h3,?_⟩;have:=apU (nt ha hp) (nt hb hq) hi h2 h3 (by
  unfold tb at h1;rw[dc,dc,BitVec.ofInt_add,RY,dc,RY]at h1;revert h1;cases(ZJ 64 a.v-ZJ 64 b.v+ZJ 64 a.m).getLsbD i<;>cases(ZJ 64 a.v-ZJ 64 b.v-ZJ 64 b.m).getLsbD i<;>simp)
 unfold tb;rw[RY,RY];exact this
def gu{r:Int}(hm:0<=m/\m<=18446744073709551615):AU (jW v m) r=ZB↔∀i,i<64->tb m i=ZC->tb r i=tb v i:=by
 rw[bk (eV hm)];constructor
 .intro h i hi h0;have h1:(tb r i &&!tb m i)=tb (bits .andNot .u64 v m) i:=(h i hi).2;rw[cJ _ _ hi,h0]at h1;simpa using h1
 .intro h i hi;show(tb (bits .andNot .u64 v m) i&&tb m i)=ZC/\(tb r i &&!tb m i)=tb (bits .andNot .u64 v m) i;rw[cJ _ _ hi];have:=h i hi;revert this;cases tb v i<;>cases tb m i<;>cases tb r i<;>simp
def jb(n:Nat)(hi:i<64):tb (n:Int) i=n.testBit i:=by unfold tb;rw[BitVec.ofInt_natCast,BitVec.getLsbD_ofNat];simp[hi]
def Jm(op w:Int)(s i:Nat):Option Nat:=
 if op=6 then(if(i:Int)<w/\s<=i then ZA (i-s)else ZD)
 else if op=7 then(if((i+s:Nat):Int)<w then ZA (i+s)else ZD)
 else(if(i:Int)<w then ZA (if((i+s:Nat):Int)<w then i+s else(w-1).toNat)else ZD)
def src6(w:Int)(s i:Nat):Jm 6 w s i=if(i:Int)<w/\s<=i then ZA (i-s)else ZD:=by unfold Jm;rw[ae rfl]
def src7(w:Int)(s i:Nat):Jm 7 w s i=if((i+s:Nat):Int)<w then ZA (i+s)else ZD:=by unfold Jm;rw[aa Os,ae rfl]
def avs(w:Int)(s i:Nat):Jm 12 w s i=if(i:Int)<w then ZA (if((i+s:Nat):Int)<w then i+s else(w-1).toNat)else ZD:=by unfold Jm;rw[aa Os,aa Os]
def rG(x:Int):Option Nat->Bool
 |some j=>tb x j
 |none=>ZC
def uR(n:Nat)(hn:n<2 ^ 64)(w:Int)(hw:w=32\/w=64):∃m:Nat,Ar (n:Int) w=(m:Int)/\m<2 ^ 64/\∀i,m.testBit i=(decide ((i:Int)<w)&&n.testBit i):=by
 rcases hw with rfl|rfl
 .refine⟨n % 2 ^ 32,by rw[dM];omega,by omega,fun i=> ?_⟩;rw[Nat.testBit_mod_two_pow];congr 1;rw[decide_eq_decide];omega
 .refine⟨n,by rw[dK],hn,fun i=> ?_⟩;by_cases hi:i<64
  .simp[show(i:Int)<64 from by omega]
  .rw[Nat.testBit_lt_two_pow (nD hn (YY Fn Fn))];simp
def ap5(x:Int)(h0:0<=x)(h1:x<=18446744073709551615)(w:Int)(hw:w=32\/w=64)(s:Nat)(hs:(s:Int)<w)(hi:i<64):
  tb (Ar ((Ar x w*2 ^ s) % 18446744073709551616) w) i=rG x (Jm 6 w s i):=by
 obtain⟨n,rfl⟩:=cj h0;obtain⟨m,hm,hml,hmb⟩:=uR n Fn w hw;have e:((m:Int)*2 ^ s) % 18446744073709551616=(((m*2 ^ s) % 2 ^ 64:Nat):Int):=by rw[show((2:Int) ^ s)=((2 ^ s:Nat):Int)from by simp,<-Int.natCast_mul];omega
 rw[hm,e];obtain⟨m2,Jt,_,Ng⟩:=uR ((m*2 ^ s) % 2 ^ 64) (Nat.mod_lt _ Os) w hw;rw[Jt,jb _ hi,Ng,Nat.testBit_mod_two_pow,show m*2 ^ s=m <<< s from(Nat.shiftLeft_eq m s).symm,Nat.testBit_shiftLeft,hmb];rw[src6];simp only[hi,decide_true,Bool.true_and];by_cases hl:(i:Int)<w
 .by_cases O1:s<=i
  .have h2:((i-s:Nat):Int)<w:=by omega
   rw[ae ⟨hl,O1⟩];simp only[hl,O1,h2,decide_true,Bool.true_and,rG,ge_iff_le];rw[jb _ Fn]
  .rw[aa (fun h=>O1 h.2)];simp[O1,rG]
 .rw[aa (fun h=>hl h.1)];simp[hl,rG]
def ap4(x:Int)(h0:0<=x)(h1:x<=18446744073709551615)(w:Int)(hw:w=32\/w=64)(s:Nat)(hs:(s:Int)<w)(hi:i<64):
  tb (Ar (Ar x w / 2 ^ s) w) i=rG x (Jm 7 w s i):=by
 obtain⟨n,rfl⟩:=cj h0;obtain⟨m,hm,hml,hmb⟩:=uR n Fn w hw;have e:(m:Int) / 2 ^ s=((m / 2 ^ s:Nat):Int):=by rw[show((2:Int) ^ s)=((2 ^ s:Nat):Int)from by simp,<-Int.natCast_ediv]
 rw[hm,e];have GB:m / 2 ^ s<=m:=Nat.div_le_self _ _;obtain⟨m2,Jt,_,Ng⟩:=uR (m / 2 ^ s) Fn w hw;rw[Jt,jb _ hi,Ng,<-Nat.shiftRight_eq_div_pow,Nat.testBit_shiftRight,hmb];rw[src7];by_cases hl:((i+s:Nat):Int)<w
 .have h2:(i:Int)<w:=by omega
  have h3:((s+i:Nat):Int)<w:=Fn;rw[ae hl];simp only[h2,h3,decide_true,Bool.true_and,rG];rw[jb _ Fn,Nat.add_comm]
 .have h3:¬((s+i:Nat):Int)<w:=by omega
  rw[aa hl];simp only[h3,decide_false,Bool.false_and,Bool.and_false,rG]
def agb(x:Int)(h0:0<=x)(h1:x<=18446744073709551615)(w:Int)(hw:w=32\/w=64):(0<=gG (Ar x w) w/\gG (Ar x w) w<=18446744073709551615)/\∀j,j<64->tb (gG (Ar x w) w) j=tb x (if(j:Int)<w then j else(w-1).toNat):=by
 rcases hw with rfl|rfl
 .obtain⟨n,rfl⟩:=cj h0;have hz:gG (Ar (n:Int) 32) 32=(((if n % 2 ^ 32<2 ^ 31 then n % 2 ^ 32 else 2 ^ 32*(2 ^ 32-1)+n % 2 ^ 32):Nat):Int):=by
   rw[dM];unfold gG KG;rw[aa Os,aa Os,ae rfl];by_cases hc:n % 2 ^ 32<2 ^ 31
   .rw[ae hc,ae Fn];omega
   .rw[aa hc,aa Fn];omega
  refine⟨by rw[hz];split<;>omega,fun j hj=> ?_⟩;rw[hz,jb _ hj];have hb:(n % 2 ^ 32).testBit 31=decide (2 ^ 31<=n % 2 ^ 32):=by rw[Nat.testBit_eq_decide_div_mod_eq,decide_eq_decide];omega
  by_cases hc:n % 2 ^ 32<2 ^ 31
  .rw[ae hc,Nat.testBit_mod_two_pow];by_cases hl:(j:Int)<32
   .rw[ae hl,jb _ hj];simp[show j<32 from by omega]
   .rw[aa hl,jb _ Os];have Xc:n.testBit 31=ZC:=by
     have:=Nat.testBit_mod_two_pow n 32 31;rw[hb]at this;simp at this;have h2:¬2 ^ 31<=n % 2 ^ 32:=Fn;simpa[h2]using this.symm
    simp[show¬j<32 from by omega,Xc]
  .rw[aa hc,Nat.testBit_two_pow_mul_add _ (Nat.mod_lt _ Os)];by_cases hl:(j:Int)<32
   .rw[ae hl,ae Fn,Nat.testBit_mod_two_pow,jb _ hj];simp[show j<32 from by omega]
   .rw[aa hl,aa Fn,jb _ Os,Nat.testBit_two_pow_sub_one];have Xc:n.testBit 31=ZB:=by
     have:=Nat.testBit_mod_two_pow n 32 31;rw[hb]at this;have h2:2 ^ 31<=n % 2 ^ 32:=Fn;simpa[h2]using this.symm
    rw[show(32-1:Int).toNat=31 from rfl,Xc];exact cP Fn
 .rw[dK];have hz:gG x 64=x:=by simp[gG]
  rw[hz];exact⟨⟨h0,h1⟩,fun j hj=>by rw[ae Fn]⟩
def akZ(x:Int)(h0:0<=x)(h1:x<=18446744073709551615)(w:Int)(hw:w=32\/w=64)(s:Nat)(hs:(s:Int)<w)(hi:i<64):
  tb (Ar ((wrap64 (gG (Ar x w) w) / 2 ^ s) % 18446744073709551616) w) i=rG x (Jm 12 w s i):=by
 obtain⟨⟨z0,z1⟩,hb⟩:=agb x h0 h1 w hw;have hwl:w<=64:=Fn;rw[RB Fn Fn hw hi];have e1:wrap64 (gG (Ar x w) w)=(ZJ 64 (gG (Ar x w) w)).toInt:=by rw[BitVec.toInt_ofInt,N8,Int.bmod_def];simp only[Nat.reducePow];split<;>omega
 have e2:tb ((wrap64 (gG (Ar x w) w) / 2 ^ s) % 18446744073709551616) i=((ZJ 64 (gG (Ar x w) w)).sshiftRight s).getLsbD i:=by
  unfold tb;have:ZJ 64 ((wrap64 (gG (Ar x w) w) / 2 ^ s) % 18446744073709551616)=(ZJ 64 (gG (Ar x w) w)).sshiftRight s:=by rw[show∀z:Int,ZJ 64 (z % 18446744073709551616)=ZJ 64 z from fun z=>by rw[<-bg,dc],e1];rw[BitVec.sshiftRight,Int.shiftRight_eq_div_pow];simp
  rw[this]
 rw[e2,BitVec.getLsbD_sshiftRight];rw[avs];have hn:¬64<=i:=Fn;by_cases hl:(i:Int)<w
 .rw[ae hl];simp only[hl,hn,decide_true,decide_false,Bool.not_false,Bool.true_and,rG];by_cases h2:((i+s:Nat):Int)<w
  .rw[ae h2,ae Fn];have:=hb (s+i) Fn;rw[ae Fn]at this;rw[Nat.add_comm i s];exact this
  .rw[aa h2];by_cases h3:s+i<64
   .rw[ae h3];have:=hb (s+i) h3;rwa [aa Fn]at this
   .rw[aa h3,BitVec.msb_eq_getLsbD_last];have:=hb 63 Os;rw[show 64-1=63 from rfl];rw[show(ZJ 64 (gG (Ar x w) w)).getLsbD 63=tb (gG (Ar x w) w) 63 from rfl,this];rcases hw with rfl|rfl
    .rfl
    .rfl
 .rw[aa hl];simp[hl,rG]
def Ue(Ab:op=6\/op=7\/op=12)(hw:w=32\/w=64)(h0:0<=x)(h1:x<=18446744073709551615){s:Nat}(hs:(s:Int)<w)(hq:Ar q w % w=s)(hi:i<64):
  tb (BI op w x q) i=rG x (Jm op w s i):=by
 unfold BI;rw[hq];rcases Ab with rfl|rfl|rfl
 .have e:B4 6 w (Ar x w) (Ar q w) s=(Ar x w*2 ^ s) % 18446744073709551616:=by simp[B4]
  rw[e];exact ap5 x h0 h1 w hw s hs hi
 .have e:B4 7 w (Ar x w) (Ar q w) s=Ar x w / 2 ^ s:=by simp[B4]
  rw[e];exact ap4 x h0 h1 w hw s hs hi
 .have e:B4 12 w (Ar x w) (Ar q w) s=(wrap64 (gG (Ar x w) w) / 2 ^ s) % 18446744073709551616:=by simp[B4]
  rw[e];exact akZ x h0 h1 w hw s hs hi
def asU(hw:w=32\/w=64){s j:Nat}(h:Jm op w s i=ZA j):j<64:=by
 unfold Jm at h
 repeat' split at h
 all_goals (simp at h;try omega)
def tK(a b:Int)(hw:w=32\/w=64):Ar (BI op w a b) w=BI op w a b:=aj4 op w a b
def alB(hw:w=32\/w=64)(h0:0<=x)(h1:x<=18446744073709551615):bits .and .u64 x (w-1)=x % w:=by
 rcases hw with rfl|rfl
 .exact Ws x h0 h1
 .exact Wq x h0 h1
def ajf(hw:w=32\/w=64)(x:Int):Ar x w % w=x % w:=by
 rcases hw with rfl|rfl
 .rw[dM];omega
 .rw[dK]
def ah2{b:Kn}(hb:b.wf)(hq:AU b q=ZB)(q0:0<=q)(q1:q<=18446744073709551615)(hw:w=32\/w=64)(hk:(bits .and .u64 b.m (w-1)==0)=ZB):
  bits .and .u64 b.v (w-1)=q % w:=by
 rw[<-alB hw q0 q1];apply RA (iH _ _) (iH _ _);intro i hi;have h1:=(bk hb q).1 hq i hi;have h2:=(yO (iH _ _) nu).1 hk i hi;rw[jG,ia]at h2;rw[jG,jG];revert h1 h2;cases tb b.v i<;>cases tb b.m i<;>cases tb q i<;>cases tb (w-1) i<;>simp
def aqv(hw:w=32\/w=64)(q:Int):∃s:Nat,q % w=s/\(s:Int)<w:=by
 have h:0<=q % w/\q % w<w:=by rcases hw with rfl|rfl<;>omega
 exact⟨(q % w).toNat,by omega,by omega⟩
def qb(hw:w=32\/w=64){a b:Kn}(ha:a.wf)(hb:b.wf){p:Int}(p0:0<=p/\p<=18446744073709551615)(q0:0<=q/\q<=18446744073709551615)(Ab:op=6\/op=7\/op=12)
  (key:∀r:Int,(0<=r/\r<=18446744073709551615)->AU (Dk op w a b) r=ZB->Ar r w=BI op w p q->AU (B1 (Dk op w a b) w) (BI op w p q)=ZB) (hp:AU a p=ZB) (hq:AU b q=ZB):
  AU (B1 (Dk op w a b) w) (BI op w p q)=ZB:=by
 refine key (BI op w p q) (fc _ _ _ _ p0.1 p0.2 q0.1 q0.2) ?_ (tK _ _ hw);by_cases hk:(bits .and .u64 b.m (w-1)==0)=ZB
 .have e:Dk op w a b=R2 op w a b:=by
   unfold Dk;rcases Ab with rfl|rfl|rfl<;>simp only[show¬(6:Int)=0 from by decide,show¬(6:Int)=1 from by decide,show¬(6:Int)=4 from by decide,show¬(6:Int)=5 from by decide,show¬(7:Int)=0 from by decide,show¬(7:Int)=1 from by decide,show¬(7:Int)=4 from by decide,show¬(7:Int)=5 from by decide,show¬(12:Int)=0 from by decide,show¬(12:Int)=1 from by decide,show¬(12:Int)=4 from by decide,show¬(12:Int)=5 from by decide,dz,ae hk,true_or,or_true,aW]
  rw[e];unfold R2;have hs:=iH b.v (w-1);rw[gu (fc _ _ _ _ ha.2.1 ha.2.2 hs.1 hs.2)];obtain⟨s,hsq,O3⟩:=aqv hw q;have hl:=ah2 hb hq q0.1 q0.2 hw hk;have Qf:Ar (bits .and .u64 b.v (w-1)) w % w=s:=by rw[ajf hw,hl,hsq];exact Int.emod_eq_of_lt Fn O3
  have hmq:Ar q w % w=s:=by rw[ajf hw,hsq]
  intro i hi hm;rw[Ue Ab hw ha.2.1 ha.2.2 O3 Qf hi]at hm;rw[Ue Ab hw p0.1 p0.2 O3 hmq hi,Ue Ab hw ha.1.1 ha.1.2 O3 Qf hi];cases Ho:Jm op w s i with
  |none=>rfl
  |some j=>rw[Ho]at hm;have hj:=asU hw Ho;have h1:=((bk ha p).1 hp j hj).2;have h2:tb a.m j=ZC:=hm;rw[h2]at h1;have h3:tb p j=tb a.v j:=XC;exact h3
 .have e:Dk op w a b=kall:=by
   unfold Dk;rcases Ab with rfl|rfl|rfl<;>simp only[show¬(6:Int)=0 from by decide,show¬(6:Int)=1 from by decide,show¬(6:Int)=4 from by decide,show¬(6:Int)=5 from by decide,show¬(7:Int)=0 from by decide,show¬(7:Int)=1 from by decide,show¬(7:Int)=4 from by decide,show¬(7:Int)=5 from by decide,show¬(12:Int)=0 from by decide,show¬(12:Int)=1 from by decide,show¬(12:Int)=4 from by decide,show¬(12:Int)=5 from by decide,dz,aa hk,true_or,or_true,aW]
  rw[e];exact mR _
def aq4(h0:0<=op)(HB:op<=12)(hw:w=32\/w=64){a b:Kn}(ha:a.wf)(hb:b.wf){p:Int}(hp:AU a p=ZB)(hq:AU b q=ZB)
  (p0:0<=p/\p<=18446744073709551615) (q0:0<=q/\q<=18446744073709551615) (pc:Ar p w=p) (qc:Ar q w=q):
  AU (B1 (Dk op w a b) w) (BI op w p q)=ZB:=by
 have hwf:=amG ha hb op w;have key:∀r:Int,(0<=r/\r<=18446744073709551615)->AU (Dk op w a b) r=ZB->Ar r w=BI op w p q->AU (B1 (Dk op w a b) w) (BI op w p q)=ZB:=fun r hr h e=>by rw[<-e];exact pu hwf hr h hw
 have hz:BI op w p q=Ar (B4 op w p q (q % w)) w:=by unfold BI;rw[pc,qc]
 rcases ab3 h0 HB with rfl|rfl|rfl|rfl|rfl|rfl|rfl|rfl|rfl|rfl|rfl|rfl|rfl
 ·
  refine key ((p+q) % 18446744073709551616) Fn ?_ (by rw[hz];simp[B4]);have e:Dk 0 w a b=Jd a b:=by simp[Dk]
  rw[e];unfold Jd;rw[gu (iV _ _)];intro i hi hm;obtain⟨_,_,h⟩:=aq6 ha hb hp hq hi hm;have e1:tb ((p+q) % 18446744073709551616) i=tb (p+q) i:=by unfold tb;rw[<-bg,dc]
  have e2:tb (ZG .u64 (a.v+b.v)) i=tb (a.v+b.v) i:=by unfold tb;rw[dc]
  rw[e1,e2,h]
 ·
  refine key ((p-q) % 18446744073709551616) Fn ?_ (by rw[hz];simp[B4]);have e:Dk 1 w a b=FW a b:=by simp[Dk]
  rw[e];unfold FW;rw[gu (iV _ _)];intro i hi hm;obtain⟨_,_,h⟩:=ah8 ha hb hp hq hi hm;have e1:tb ((p-q) % 18446744073709551616) i=tb (p-q) i:=by unfold tb;rw[<-bg,dc]
  have e2:tb (ZG .u64 (a.v-b.v)) i=tb (a.v-b.v) i:=by unfold tb;rw[dc]
  rw[e1,e2,h]
 .have e:Dk 2 w a b=kall:=by simp[Dk]
  refine key (BI 2 w p q) (fc _ _ _ _ p0.1 p0.2 q0.1 q0.2) (by rw[e];exact mR _) (tK _ _ hw)
 .have e:Dk 3 w a b=kall:=by simp[Dk]
  refine key (BI 3 w p q) (fc _ _ _ _ p0.1 p0.2 q0.1 q0.2) (by rw[e];exact mR _) (tK _ _ hw)
 ·
  have e:Dk 4 w a b=kor a b:=by simp[Dk]
  refine key (bits .or .u64 p q) (iV _ _) ?_ (by rw[hz,u64_or _ _ p0.1 Fn q0.1 Fn];simp[B4]);rw[e,bk ⟨iV _ _,eJ _ _⟩];intro i hi;have h1:=(bk ha p).1 hp i hi;have h2:=(bk hb q).1 hq i hi;show(tb (bits .or .u64 a.v b.v) i&&tb (bits .andNot .u64 (bits .or .u64 a.m b.m) (bits .or .u64 a.v b.v)) i)=ZC/\(tb (bits .or .u64 p q) i &&!tb (bits .andNot .u64 (bits .or .u64 a.m b.m) (bits .or .u64 a.v b.v)) i)=tb (bits .or .u64 a.v b.v) i;rw[cJ _ _ hi,fM,fM,fM];revert h1 h2;cases tb a.v i<;>cases tb a.m i<;>cases tb b.v i<;>cases tb b.m i<;>cases tb p i<;>cases tb q i<;>simp
 ·
  have e:Dk 5 w a b=NQ a b:=by simp[Dk]
  refine key (bits .and .u64 p q) (iH _ _) ?_ (by rw[hz,u64_and _ _ p0.1 Fn q0.1 Fn];simp[B4]);rw[e,bk ⟨iH _ _,eJ _ _⟩];intro i hi;have h1:=(bk ha p).1 hp i hi;have h2:=(bk hb q).1 hq i hi;show(tb (bits .and .u64 a.v b.v) i&&tb (bits .andNot .u64 (bits .and .u64 (bits .or .u64 a.v a.m) (bits .or .u64 b.v b.m)) (bits .and .u64 a.v b.v)) i)=ZC/\(tb (bits .and .u64 p q) i &&!tb (bits .andNot .u64 (bits .and .u64 (bits .or .u64 a.v a.m) (bits .or .u64 b.v b.m)) (bits .and .u64 a.v b.v)) i)=tb (bits .and .u64 a.v b.v) i;rw[cJ _ _ hi,jG,jG,jG,fM,fM];revert h1 h2;cases tb a.v i<;>cases tb a.m i<;>cases tb b.v i<;>cases tb b.m i<;>cases tb p i<;>cases tb q i<;>simp
 .exact qb hw ha hb p0 q0 (.inl rfl) key hp hq
 .exact qb hw ha hb p0 q0 (.inr (.inl rfl)) key hp hq
 ·
  have e:Dk 8 w a b=FW (Es 0) a:=by simp[Dk]
  refine key ((0-p) % 18446744073709551616) Fn ?_ (by rw[hz];simp[B4]);rw[e];unfold FW;rw[gu (iV _ _)];intro i hi hm;obtain⟨_,_,h⟩:=ah8 (tS nu) ha (ve nu) hp hi hm;have e1:tb ((0-p) % 18446744073709551616) i=tb (0-p) i:=by unfold tb;rw[<-bg,dc]
  have e2:tb (ZG .u64 ((Es 0).v-a.v)) i=tb ((Es 0).v-a.v) i:=by unfold tb;rw[dc]
  rw[e1,e2,h]
 .have e:Dk 9 w a b=kall:=by simp[Dk]
  refine key (BI 9 w p q) (fc _ _ _ _ p0.1 p0.2 q0.1 q0.2) (by rw[e];exact mR _) (tK _ _ hw)
 ·
  have e:Dk 10 w a b=Lj a b:=by simp[Dk]
  refine key (bits .xor .u64 p q) (rU _ _) ?_ (by rw[hz,u64_xor _ _ p0.1 Fn q0.1 Fn];simp[B4]);rw[e];unfold Lj;rw[gu (iV _ _)];intro i hi hm;have h1:=(bk ha p).1 hp i hi;have h2:=(bk hb q).1 hq i hi;rw[fM]at hm;rw[mg,mg];revert h1 h2 hm;cases tb a.v i<;>cases tb a.m i<;>cases tb b.v i<;>cases tb b.m i<;>cases tb p i<;>cases tb q i<;>simp
 .have e:Dk 11 w a b=b:=by simp[Dk]
  refine key q q0 (by rw[e];exact hq) (by rw[hz];simp[B4])
 .exact qb hw ha hb p0 q0 (.inr (.inr rfl)) key hp hq
def wD{a:Kn}(ha:a.wf){p:Int}(hp:AU a p=ZB)(p0:0<=p/\p<=18446744073709551615)(hm:a.m=0):a.v=p:=by apply RA ha.1 p0;intro i hi;have h:=((bk ha p).1 hp i hi).2;rw[hm,ia]at h;simpa using h.symm
def alF{a b:Kn}(h1:Bz a=ZB)(h2:Bz b=ZB)(h3:0<=op)(h4:op<=12)(h5:w=32\/w=64):ee op w a b=ZB:=by
 have:iJ w=ZB:=by rcases h5 with rfl|rfl<;>rfl
 simp[ee,h1,h2,h3,h4,this]
def ail(h0:0<=op)(HB:op<=12)(hw:w=32\/w=64){a b:Kn}(ha:a.wf)(hb:b.wf){p:Int}(hp:AU a p=ZB)(hq:AU b q=ZB)(p0:0<=p/\p<=18446744073709551615)(q0:0<=q/\q<=18446744073709551615):AU (IJ op w a b) (BI op w p q)=ZB:=by
 have hA:=pu ha p0 hp hw;have hB:=pu hb q0 hq hw;have hP:=dJ p w p0.1 p0.2;have hQ:=dJ q w q0.1 q0.2;have wA:=jA ha w;have wB:=jA hb w;rw[<-aay,IJ,ae (alF (kC hp) (kC hq) h0 HB hw)];split
 next hm=>rw[or_zero wA.2.1 wA.2.2 wB.2.1 wB.2.2,ne,cb,cb]at hm;rw[wD wA hA hP hm.1,wD wB hB hQ hm.2];exact ve (fc _ _ _ _ hP.1 hP.2 hQ.1 hQ.2)
 .exact aq4 h0 HB hw wA wB hA hB hP hQ (jz _ _) (jz _ _)
def acq{a b:Kn}(hb:b.wf):Jw a b=ZB↔Bz a=ZB/\Bz b=ZB/\∀i,i<64->tb b.m i=ZC->tb a.m i=ZC/\tb a.v i=tb b.v i:=by
 rw[aih hb,eY,eY];constructor
 .intro h;refine⟨fun i hi=>(h i hi).1,fun i hi=>(h i hi).2.1,fun i hi hm=> ?_⟩;have:=h i hi;revert this hm;cases tb a.v i<;>cases tb a.m i<;>cases tb b.v i<;>cases tb b.m i<;>simp
 .rintro ⟨h1,h2,h3⟩ i hi;have a1:=h1 i hi;have a2:=h2 i hi;have a3:=h3 i hi;revert a1 a2 a3;cases tb a.v i<;>cases tb a.m i<;>cases tb b.v i<;>cases tb b.m i<;>simp
def xL{a:Kn}(ha:a.wf)(x:Int):AU a x=ZB↔Bz a=ZB/\∀i,i<64->tb a.m i=ZC->tb x i=tb a.v i:=by
 rw[bk ha,eY];constructor
 .intro h;refine⟨fun i hi=>(h i hi).1,fun i hi hm=> ?_⟩;have:=h i hi;revert this hm;cases tb a.v i<;>cases tb a.m i<;>cases tb x i<;>simp
 .rintro ⟨h1,h2⟩ i hi;have a1:=h1 i hi;have a2:=h2 i hi;revert a1 a2;cases tb a.v i<;>cases tb a.m i<;>cases tb x i<;>simp
def aii{a b:Kn}(ha:a.wf)(hb:b.wf)(h:Jw a b=ZB)(hz:AU a z=ZB):AU b z=ZB:=by obtain⟨h1,h2,h3⟩:=(acq hb).1 h;obtain⟨_,h4⟩:=(xL ha z).1 hz;rw[xL hb];exact⟨h2,fun i hi hm=>(h4 i hi (h3 i hi hm).1).trans (h3 i hi hm).2⟩
def aco{a b:Kn}(h1:Bz a=ZB)(h2:Bz b=ZB):ju a b=jW a.v (bits .or .u64 (bits .or .u64 a.m b.m) (bits .xor .u64 a.v b.v)):=by simp[ju,h1,h2]
def acp{a:Kn}(hm:0<=m/\m<=18446744073709551615)(h1:Bz a=ZB)(h:∀i,i<64->tb m i=ZC->tb a.m i=ZC/\tb a.v i=tb v i):Jw a (jW v m)=ZB:=by rw[acq (eV hm)];refine⟨h1,xJ _ _,fun i hi h0=> ?_⟩;have h0':tb m i=ZC:=h0;obtain⟨g1,g2⟩:=h i hi h0';refine⟨g1,?_⟩;show _=tb (bits .andNot .u64 v m) i;rw[cJ _ _ hi,h0',g2];simp
def aig{a b:Kn}(h1:Bz a=ZB)(h2:Bz b=ZB):Jw a (ju a b)=ZB:=by rw[aco h1 h2];refine acp (iV _ _) h1 (fun i hi h=> ?_);rw[fM,fM,mg]at h;revert h;cases tb a.v i<;>cases tb a.m i<;>cases tb b.v i<;>cases tb b.m i<;>simp
def aif{a b:Kn}(h1:Bz a=ZB)(h2:Bz b=ZB):Jw b (ju a b)=ZB:=by rw[aco h1 h2];refine acp (iV _ _) h2 (fun i hi h=> ?_);rw[fM,fM,mg]at h;revert h;cases tb a.v i<;>cases tb a.m i<;>cases tb b.v i<;>cases tb b.m i<;>simp
def aib{a b:Kn}(ha:a.wf)(hb:b.wf)(h:eN a b=ZB)(z:Int):AU (jt a b) z=(AU a z&&AU b z):=by
 have hm:=(sJ a b).1 h;rw[ar,ne,bk ha,bk hb];have e:jt a b=jW (bits .or .u64 a.v b.v) (bits .and .u64 a.m b.m):=by simp[jt,h]
 rw[e,gu (iH _ _)];constructor
 .intro g;constructor
  .intro i hi;have g1:=g i hi;have g2:=hm i hi;rw[jG,fM]at g1;revert g1 g2;cases tb a.v i<;>cases tb a.m i<;>cases tb b.v i<;>cases tb b.m i<;>cases tb z i<;>simp
  .intro i hi;have g1:=g i hi;have g2:=hm i hi;rw[jG,fM]at g1;revert g1 g2;cases tb a.v i<;>cases tb a.m i<;>cases tb b.v i<;>cases tb b.m i<;>cases tb z i<;>simp
 .rintro ⟨g1,g2⟩ i hi h0;have a1:=g1 i hi;have a2:=g2 i hi;rw[jG]at h0;rw[fM];revert a1 a2 h0;cases tb a.v i<;>cases tb a.m i<;>cases tb b.v i<;>cases tb b.m i<;>cases tb z i<;>simp
def adS{a b:Kn}(ha:a.wf)(hb:b.wf)(h:eN a b=ZC)(z:Int):(AU a z&&AU b z)=ZC:=by
 cases hz:(AU a z&&AU b z)
 .rfl
 .exfalso;rw[ne]at hz;have g1:=(bk ha z).1 hz.1;have g2:=(bk hb z).1 hz.2;have:eN a b=ZB:=by
   rw[sJ];intro i hi;have a1:=g1 i hi;have a2:=g2 i hi;revert a1 a2;cases tb a.v i<;>cases tb a.m i<;>cases tb b.v i<;>cases tb b.m i<;>cases tb z i<;>simp
  rw[h]at this;cases this
def alH{r:Rg}(hr:r.wf)(z0:r.ul<=z)(z1:z<=r.uh):AU (FV r) z=ZB:=by
 obtain⟨⟨l0,l1⟩,⟨u0,u1⟩,_⟩:=hr;have hx:=rU r.ul r.uh;obtain⟨n,hn⟩:∃n,aA (bits .xor .u64 r.ul r.uh).toNat=n:=⟨_,rfl⟩
 have GB:n<=64:=by rw[<-hn];exact gF Fn
 have ID:r.ul / 2 ^ n=r.uh / 2 ^ n:=by
  refine(acS r.ul r.uh n GB l0 l1 u0 u1).1 ?_;have Ap:=rD (bits .xor .u64 r.ul r.uh).toNat;rw[hn]at Ap;obtain⟨x,ER⟩:=cj hx.1;rw[ER]at Ap hx ⊢;have hq:1<=(2:Nat) ^ n:=Nat.one_le_two_pow;have hp:(2:Nat) ^ n<=2 ^ 64:=YY Fn GB;rw[show((2:Int) ^ n-1)=((2 ^ n-1:Nat):Int)from by rw[Int.ofNat_sub hq];simp,u64_andNot_nat x (2 ^ n-1) Fn Fn];have h6:=(vC x n GB Fn).2 (Nat.div_eq_of_lt (by simpa using Ap))
  exact_mod_cast h6
 have hz:z / 2 ^ n=r.ul / 2 ^ n:=by have hp:(0:Int)<2 ^ n:=Int.pow_pos Fn;have g1:=Int.ediv_le_ediv hp z0;have g2:=Int.ediv_le_ediv hp z1;omega
 have hd:=(acS z r.ul _ GB Fn Fn l0 l1).2 hz;have Qm:=aqu GB;have hcv:FV r=jW r.ul (2 ^ n-1):=by unfold FV kR;rw[hn]
 rw[hcv,gu (by generalize (2:Int) ^ n=x at *;omega)];intro i A6 hm;have h5:=(yO (eJ _ _) nu).1 (cb.2 hd) i A6;rw[cJ _ _ A6,mg,ia,hm]at h5;revert h5;cases tb z i<;>cases tb r.ul i<;>simp
def TY{k:Kn}(hk:k.wf):(Mj k).wf:=⟨hk.1,iV _ _,by simp[Mj,ball],by simp[Mj,ball]⟩
def atD{k:Kn}(hk:k.wf)(hx:0<=x/\x<=18446744073709551615)(h:AU k x=ZB):AI (Mj k) x=ZB:=by have A:=nt hk h;have h1:=A.low.mod 64;have h2:=A.high.mod 64;rw[<-auW]at h2;have e1:=ni hk.1.1 hk.1.2;have e2:=ni hx.1 hx.2;have e3:=ni (iV k.v k.m).1 (iV k.v k.m).2;rw[Nat.mod_eq_of_lt (BitVec.isLt _),Nat.mod_eq_of_lt (BitVec.isLt _)]at h1 h2;rw[aR];have:=gf x;show k.v<=x/\x<=bits .or .u64 k.v k.m /\ -9223372036854775808<=BY x/\BY x<=9223372036854775807;omega
def tV{a b:Rg}(ha:a.wf)(hb:b.wf):(jw a b).wf:=by
 unfold jw;split
 .exact tU (tR ha hb)
 .exact fz
def tT(a b:Kn):(jt a b).wf:=by
 unfold jt;split
 .exact eV (iH _ _)
 .exact jB
def apv{r:Rg}(hr:r.wf):(FV r).wf:=eV (vA (rU _ _).2)
def jl{r:Rg}{k:Kn}(hr:r.wf)(hk:k.wf):(sc r k).wf:=⟨hr,hk⟩
def TX{a:Sc}(ha:a.wf):(IP a).wf:=jl (tV ha.r (TY ha.k)) (tT _ _)
def tQ:vall.wf:=jl fz jB
def pO{a:Sc}(ha:a.wf):(Ca a).wf:=by
 unfold Ca;split
 .exact TX (TX ha)
 .exact tQ
def fA{a:Sc}(h1:AI a.r x=ZB)(h2:AU a.k x=ZB):Bf a x=ZB:=by unfold Bf Bl;rw[cU h1,kC h2,h1,h2];rfl
def fG{a:Sc}(h:Bf a x=ZB):AI a.r x=ZB:=by unfold Bf at h;simp only[ne]at h;exact h.2.1
def fV{a:Sc}(h:Bf a x=ZB):AU a.k x=ZB:=by unfold Bf at h;simp only[ne]at h;exact h.2.2
def eW{a:Sc}(h:Bf a x=ZB):Bl a=ZB:=by unfold Bf at h;rw[ne]at h;exact h.1
def xI{a b:Kn}(ha:a.wf)(hb:b.wf)(h1:AU a z=ZB)(h2:AU b z=ZB):eN a b=ZB/\AU (jt a b) z=ZB:=by
 cases h:eN a b
 .have:=adS ha hb h z;rw[h1,h2]at this;cases this
 .exact⟨rfl,by rw[aib ha hb h z,h1,h2];rfl⟩
def ajw{a b:Rg}(ha:a.wf)(hb:b.wf)(hz:0<=z/\z<=18446744073709551615)(h1:AI a z=ZB)(h2:AI b z=ZB):fx a b=ZB/\AI (jw a b) z=ZB:=by have h:=acC ha hb hz.1 hz.2 h2;rw[h1]at h;have h:=h.symm;rw[ne]at h;exact h
def aeS{a:Sc}(ha:a.wf)(hx:0<=x/\x<=18446744073709551615)(h:Bf a x=ZB):Lz a=ZB/\LA a=ZB/\Bf (IP a) x=ZB:=by have h1:=ajw ha.r (TY ha.k) hx (fG h) (atD ha.k hx (fV h));have hw:=tV ha.r (TY ha.k);have hb:=(aR _ _).1 h1.2;have h2:=xI ha.k (apv hw) (fV h) (alH hw hb.1 hb.2.1);exact⟨h1.1,h2.1,fA (a:=IP a) h1.2 h2.2⟩
def gK{a:Sc}(ha:a.wf)(hx:0<=x/\x<=18446744073709551615)(h:Bf a x=ZB):C6 a=ZB/\Bf (Ca a) x=ZB:=by obtain⟨h1,h2,h3⟩:=aeS ha hx h;obtain⟨g1,g2,g3⟩:=aeS (TX ha) hx h3;have e:=Rk (eW h) h1 h2 g1 g2;exact⟨e.2,by rw[e.1];exact g3⟩
def yz{a b:Rg}(ha:a.wf)(hb:b.wf):(CY cc a b).wf:=by
 unfold CY;split
 .rename_i hk;have hg:=amv hk;unfold Cz at hk;rw[hg,Bool.true_and]at hk;unfold jy at hg;simp only[ne]at hg;by_cases c:cc=0
  .rw[ae c];exact tV ha hb
  .rw[aa c]at hk ⊢;rw[ne]at hk;exact tU (aeK ha hb hg.1 hg.2.1 hk.1)
 .exact fz
def akh{a b:Sc}(ha:a.wf)(hb:b.wf)(hv:0<=v/\v<=18446744073709551615)(hx:0<=x/\x<=18446744073709551615)(h1:Bf a v=ZB)(h2:Bf b x=ZB)(hc:DQ cc 64=ZB)(hy:lh cc 64 v x=ZB):DB cc a b=ZB/\Bf (Ev cc a b) v=ZB:=by
 unfold DQ at hc;simp only[ne,ax]at hc;have hy:=yq hy;have hg:=arN ha.r hb.r hv.1 hv.2 hx.1 hx.2 (fG h1) (fG h2) hc.1.1 hc.1.2 hy;by_cases c:cc=0
 .have e:v=x:=by
   unfold Mx at hy;rw[ae c]at hy;exact Ae hy
  subst e;have hk:=xI ha.k hb.k (fV h1) (fV h2);have q:=Rh (eW h1) (eW h2) hg.1 (cb.2 c) hk.1;rw[q.1,q.2];exact gK (jl (yz ha.r hb.r) (tT _ _)) hv (fA (a:=sc _ _) hg.2 hk.2)
 .have q:=Ri (eW h1) (eW h2) hg.1 (jq.2 c);rw[q.1,q.2];exact gK (jl (yz ha.r hb.r) ha.k) hv (fA (a:=sc (CY cc a.r b.r) a.k) hg.2 (fV (a:=a) h1))
def aaD{a b:Rg}(ha:a.wf)(hb:b.wf):(jx a b).wf:=by
 obtain⟨a1,a2,a3,a4⟩:=ha;obtain⟨b1,b2,b3,b4⟩:=hb;unfold jx;split
 .unfold nn;refine⟨?_,?_,?_,?_⟩<;>simp only<;>omega
 .exact fz
def sL{a b:Kn}(ha:a.wf)(h1:AU a x=ZB)(h2:Bz b=ZB):AU (ju a b) x=ZB:=aii ha (km a b) (aig (kC h1) h2) h1
def sK{a b:Kn}(hb:b.wf)(h1:Bz a=ZB)(h2:AU b x=ZB):AU (ju a b) x=ZB:=aii hb (km a b) (aif h1 (kC h2)) h2
def Rt{a:Sc}(h:Bl a=ZB):AS a.r=ZB:=by unfold Bl at h;rw[ne]at h;exact h.1
def Ru{a:Sc}(h:Bl a=ZB):Bz a.k=ZB:=by unfold Bl at h;rw[ne]at h;exact h.2
def aeJ{a b:Rg}(ha:a.wf):(FM a b).wf:=by obtain⟨a1,a2,a3,a4⟩:=ha;unfold FM;refine⟨?_,?_,?_,?_⟩<;>simp only<;>split<;>omega
def apu{a b:Rg}(ha:a.wf)(hb:b.wf)(hz:0<=z/\z<=18446744073709551615)(h:AI a z=ZB\/AI b z=ZB):AI (FM a b) z=ZB:=by have hs:=gf z;obtain⟨a1,a2,a3,a4⟩:=ha;obtain⟨b1,b2,b3,b4⟩:=hb;rw[aR,aR]at h;rw[aR];unfold FM;simp only[jq,ax,ne_eq];refine⟨?_,?_,?_,?_⟩<;>split<;>omega
def vJ{a b:Sc}(ha:a.wf)(hb:b.wf)(hz:0<=z/\z<=18446744073709551615)(ma:Bl a=ZB)(mb:Bl b=ZB)(h:Bf a z=ZB\/Bf b z=ZB):Bf (jE a b) z=ZB:=by
 unfold jE;rw[ae ⟨ma,mb⟩];refine(gK (jl (aaD ha.r hb.r) (km _ _)) hz ?_).2;rcases h with h|h
 .exact fA (a:=sc _ _) (aiK (fG h) (Rt mb)) (sL ha.k (fV h) (Ru mb))
 .exact fA (a:=sc _ _) (aiJ (Rt ma) (fG h)) (sK hb.k (Ru ma) (fV h))
def aaH{a b:Sc}(ha:a.wf)(hb:b.wf)(hz:0<=z/\z<=18446744073709551615)(ma:Bl a=ZB)(mb:Bl b=ZB)(h:Bf a z=ZB\/Bf b z=ZB):Bf (DC a b) z=ZB:=by
 unfold DC;rw[ae ⟨ma,mb⟩];refine(gK (jl (aeJ ha.r) (km _ _)) hz ?_).2;refine fA (a:=sc _ _) (apu ha.r hb.r hz ?_) ?_
 .rcases h with h|h
  .exact .inl (fG h)
  .exact .inr (fG h)
 .rcases h with h|h
  .exact sL ha.k (fV h) (Ru mb)
  .exact sK hb.k (Ru ma) (fV h)
def yx{a:Rg}(ha:a.wf):(CZ a).wf:=by
 unfold CZ;split
 .exact ha
 .exact tU (pP Fn Fn Fn Fn)
def aaL{a:Sc}(ha:a.wf)(hz:0<=z/\z<=18446744073709551615)(h:Bf a z=ZB):Bf (Io a) (Ar z 32)=ZB:=by refine(gK (jl (yx ha.r) (jA ha.k 32)) (dJ z 32 hz.1 hz.2) ?_).2;refine fA (a:=sc _ _) ?_ (pu ha.k hz (fV h) (.inl rfl));rw[dM];exact aiI hz.1 (fG h)
def nA{a:Sc}(ha:a.wf):(Io a).wf:=pO (jl (yx ha.r) (jA ha.k 32))
def zM(z0:0<=z)(z1:z<=4294967295):AI (CZ ball) z=ZB:=by have h:=aiI z0 (kE z z0 Fn);rw[Int.emod_eq_of_lt z0 Fn]at h;exact h
def ajp{r:Rg}(h:AI r y=ZB)(e:y<=4294967295->y=z)(z0:0<=z)(z1:z<=4294967295):AI (KC r) z=ZB:=by
 unfold KC;split
 .have:=(aR r y).1 h;rw[<-e Fn];exact h
 .exact zM z0 z1
def ac0:AI (G5 v) v=ZB:=by rw[aR];exact⟨Int.le_refl _,Int.le_refl _,Int.le_refl _,Int.le_refl _⟩
def amK(v:Int):(B7 v).r=G5 v:=rfl
def adi{a:Sc}(ha:a.wf)(hy:0<=y/\y<=18446744073709551615)(h:Bf a y=ZB)(ho:yD a=ZB):jC a=y:=by unfold yD at ho;rw[ne]at ho;have e:=rC ho.2 hy.1 hy.2;rw[fG h]at e;have e:=Ae e.symm;unfold jC aE;rw[ae ho.1,ae ho.2,e]
def awK(h0:0<=op)(HB:op<=12)(n8:op≠8)(n12:op≠12)(n6:op≠6)(n7:op≠7)(x0:0<=x)(x1:x<=4294967295)(y0:0<=y)(y1:y<=4294967295)(hs:BI op 64 x y<=4294967295):BI op 64 x y=BI op 32 x y:=by
 have hb:=(fc op 64 x y x0 Fn y0 Fn).1;unfold BI at hs hb ⊢;rw[dK,dK,dK]at hs hb ⊢;rw[dM,dM,dM,Int.emod_eq_of_lt (b:=4294967296) x0 Fn,Int.emod_eq_of_lt (b:=4294967296) y0 Fn];have e:B4 op 32 x y (y % 32)=B4 op 64 x y (y % 64):=by
  unfold B4;by_cases c0:op=0
  .simp[c0]
  by_cases c1:op=1
  .simp[c1]
  by_cases c2:op=2
  .simp[c2]
  by_cases c3:op=3
  .simp[c3]
  by_cases c4:op=4
  .simp[c4]
  by_cases c5:op=5
  .simp[c5]
  by_cases c9:op=9
  .simp[c9]
  by_cases CA:op=10
  .simp[CA]
  obtain rfl:op=11:=Fn;simp
 rw[e,Int.emod_eq_of_lt hb Fn]
def awJ(ho:op=6\/op=7)(x0:0<=x)(x1:x<=4294967295)(y0:0<=y)(y1:y<=4294967295)(hs:BI op 64 x (y % 32)<=4294967295):BI op 64 x (y % 32)=BI op 32 x y:=by
 have hb:=(fc op 64 x (y % 32) x0 Fn Fn Fn).1;unfold BI at hs hb ⊢;rw[dK,dK,dK]at hs hb ⊢;rw[dM,dM,dM,Int.emod_eq_of_lt (b:=4294967296) x0 Fn,Int.emod_eq_of_lt (b:=4294967296) y0 Fn];have e:B4 op 32 x y (y % 32)=B4 op 64 x (y % 32) (y % 32 % 64):=by rw[Int.emod_eq_of_lt (a:=y % 32) (b:=64) Fn Fn];rcases ho with rfl|rfl<;>simp[B4]
 rw[e,Int.emod_eq_of_lt hb Fn]
def al4{a b:Sc}(ha:a.wf)(hb:b.wf)(h0:0<=op)(HB:op<=12)(x0:0<=x)(x1:x<=4294967295)(y0:0<=y)(y1:y<=4294967295)(h1:Bf a x=ZB)(h2:Bf b y=ZB):AI (fd op a b) (BI op 32 x y)=ZB:=by
 have FT:=(fc op 32 x y x0 Fn y0 Fn).1;have ES:BI op 32 x y<=4294967295:=by unfold BI;rw[dM];omega
 unfold fd;by_cases c:op=8\/op=12
 .rw[ae c];exact zM FT ES
 rw[aa c];by_cases d:op=6\/op=7
 .rw[ae d];by_cases ho:yD b=ZB
  .rw[ae ho,adi hb ⟨y0,by omega⟩ h2 ho];have e:Ac .and .u64 y 31=y % 32:=Ws y y0 Fn;rw[e,amK];have hz:=fc op 64 x (y % 32) x0 Fn Fn Fn;exact ajp (Uv ha.r (yw Fn Fn) x0 Fn Fn Fn (fG h1) ac0 hz.1 hz.2) (fun hs=>awJ d x0 x1 y0 y1 hs) FT ES
  .rw[aa ho];exact zM FT ES
 .rw[aa d];have hz:=fc op 64 x y x0 Fn y0 Fn;exact ajp (Uv ha.r hb.r x0 Fn y0 Fn (fG h1) (fG h2) hz.1 hz.2) (fun hs=>awK h0 HB Fn Fn Fn Fn x0 x1 y0 y1 hs) FT ES
def Uk{l:Int}(h:BT op l=ZB):0<=op/\op<=12/\(l=32\/l=64):=by unfold BT iJ at h;simp only[ne,ax,eu,cb]at h;exact⟨h.1.1,h.1.2,h.2⟩
section
variable {op l:Int}{a b:Kn}
end
def rf0(h0:0<=v)(h:v<=0):0=kR v:=by obtain rfl:v=0:=Fn;rfl
def rf{lo hi:Int}(k:Nat)(e1:lo=2 ^ k)(e2:hi=2 ^ (k+1)-1)(h1:lo<=v)(h2:v<=hi):hi=kR v:=by
 have p:(0:Int)<2 ^ k:=Int.pow_pos Fn;have q1:((2 ^ k:Nat):Int)=2 ^ k:=by simp
 have q2:((2 ^ (k+1):Nat):Int)=2 ^ (k+1):=by simp
 unfold kR;rw[ajz (n:=v.toNat) (c:=k) Fn Fn,e2]
section
variable {op:Int}{a b:Rg}(ha:a.ok)(hb:b.ok)(ma:AS a=ZB)(mb:AS b=ZB)
include ha hb
include ma mb
end
section
variable {a b:Rg}
end
def au5{r s:Sc}(h:r=s):[Dt.z r.ul,.z r.uh,.z r.sl,.z r.sh,.z r.v,.z r.m]=[Dt.z s.ul,.z s.uh,.z s.sl,.z s.sh,.z s.v,.z s.m]:=by rw[h]
def C5(n:Int):Sc:=Hz (2 ^ (8*(min (max n 1) 8).toNat)-1)
def aam(n:Int):min (max n 1) 8=1\/min (max n 1) 8=2\/min (max n 1) 8=3\/min (max n 1) 8=4\/min (max n 1) 8=5\/min (max n 1) 8=6\/min (max n 1) 8=7\/min (max n 1) 8=8:=by omega
end Go.Proofs.YtgolejfhoefeaabGreatDoor
