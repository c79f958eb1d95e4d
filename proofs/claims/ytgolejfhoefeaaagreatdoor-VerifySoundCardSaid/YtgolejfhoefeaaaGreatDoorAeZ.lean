import Derived.Test.YtgolejfhoefeaaaGreatDoorRows
import Derived.Test.YtgolejfhoefeaaaGreatDoorLib
import Derived.WalkKit
import Derived.WalkSpells
import Derived.WalkLawsBesides
import Derived.Laws.EntriesVeiled
import Derived.Test.YtgolejfhoefeaaaGreatDoorAdZ
import Derived.Test.YtgolejfhoefeaaaGreatDoorProg
import Derived.Laws.Externs
import Derived.Test.YtgolejfhoefeaaaGreatDoorFrame
import Derived.Laws.OwnMore
import Derived.Deep.RegionHeld3
import Derived.Deep.RegionWith
import Derived.Deep.DeepCutAuto
import Derived.Deep.CutBlock
import Derived.Lib.BitFns
import Derived.ChangeSlices
import Derived.ChangeSame
import Derived.ChangeArms
import Derived.Deep.Slices
set_option maxRecDepth 100000
set_option maxHeartbeats 8000000
set_option linter.defProp false
set_option linter.unusedVariables false
set_option linter.unusedSimpArgs false
namespace Go.Proofs.YtgolejfhoefeaaaGreatDoor
open Option renaming some->ZA,none->ZE
open Bool renaming true->ZB,false->ZC,not_eq_true'->ZP
open Nat renaming reduceAdd->ZD,reduceSub->ZH,add_zero->ZS,pow_le_pow_right->ZV
open Go.Proofs.Tryz renaming prog->ZF
open Go.IntKind renaming wrap->ZG,signed->YV,bits->ZX
open BitVec renaming ofInt->ZL
open List renaming cons_append->ZO,nil_append->ZQ,append_nil->YR,flatMap_cons->ZR,flatMap_nil->ZU
open Go.RowKit
variable {x v w op z y cc m a:Int}{i b n:Nat}{t:Bool}{p q q2:Prop}{cs:Array Value}{M:BitVec 64}{l:List VK}{P:Program}{w':World}{ks:List CE}
def fB(a:Int):Bool:=a==32||a==64
def oU(a:Int):Bool:=a==8||a==16||a==32||a==64
def Ap(v a:Int):Int:=if a=8 then v % 256 else if a=16 then v % 65536 else if a=32 then v % 4294967296 else v
def JS(v b:Int):Int:=if v % (2*b)<b then v % (2*b)else 18446744073709551616-2*b+v % (2*b)
def eD(v a:Int):Int:=if a=8 then JS v 128 else if a=16 then JS v 32768 else if a=32 then JS v 2147483648 else v
def abz(a:Int)(w:World):
  Calls ZF 140 #[.int .i8 a] w fun e w'=>e=.returned (.bool (fB a))/\w=w':=by
 go_enter Tryz.func140,Tryz.ntmps140
 go_wp2
 all_goals go_ret
 all_goals (refine⟨tN ?_,rfl⟩;simp_all [fB])
def ml(a:Int)(w:World):
  Calls ZF 95 #[.int .i8 a] w fun e w'=>e=.returned (.bool (fB a))/\w=w':=by
 go_enter Tryz.func95,Tryz.ntmps95
 go_wp2
 all_goals go_ret
 all_goals (refine⟨tN ?_,rfl⟩;simp_all [fB])
def ns(a:Int)(w:World):
  Calls ZF 134 #[.int .i8 a] w fun e w'=>e=.returned (.bool (oU a))/\w=w':=by
 go_enter Tryz.func134,Tryz.ntmps134
 go_wp2
 all_goals go_ret
 all_goals (refine⟨tN ?_,rfl⟩;simp_all [oU])
def aiy(v a:Int)(w:World)(h0:0<=v)(h1:v<=18446744073709551615):
  Calls ZF 141 #[.int .u64 v,.int .i8 a] w fun e w'=>e=.returned (.int .u64 (Ap v a))/\w=w':=by
 go_enter Tryz.func141,Tryz.ntmps141
 go_wp2
 all_goals go_ret
 all_goals (refine⟨bk ?_,rfl⟩)
 all_goals (simp only[cL,beq_eq_false_iff_ne]at *;simp only[Ap,arx,aT, *];first|rfl|(simp;done)|(simp;omega))
def aj7(v a:Int)(w:World)(h0:0<=v)(h1:v<=18446744073709551615):
  Calls ZF 176 #[.int .u64 v,.int .i8 a] w fun e w'=>e=.returned (.int .u64 (eD v a))/\w=w':=by
 go_enter Tryz.func176,Tryz.ntmps176
 go_wp2
 all_goals go_ret
 all_goals (refine⟨bk ?_,rfl⟩)
 all_goals (simp only[cL,beq_eq_false_iff_ne]at *;simp only[eD,JS,arx,aT,w_i8,auu,w_32,Pr, *];first|rfl|(simp;done)|(simp;split<;>omega))
def iN(v a:Int)(w:World)(h0:0<=v)(h1:v<=18446744073709551615):
  Calls ZF 96 #[.int .u64 v,.int .i8 a] w fun e w'=>e=.returned (.int .u64 (Ap v a))/\w=w':=by
 go_enter Tryz.func96,Tryz.ntmps96
 go_wp2_with (go_at_call 134;refine(ns _ _).mono ?_;rintro e w' ⟨rfl,rfl⟩)
 all_goals go_ret
 all_goals (refine⟨bk ?_,rfl⟩)
 next h=>simp at h;subst h;simp[Ap]
 .rename_i hw h;simp[oU]at hw h;rcases hw with((rfl|rfl)|rfl)|rfl
  .simp only[aT,Ap];simp;exact at8 v h0 h1
  .simp only[aT,Ap];simp;exact ai0 16 Fn v h0 h1
  .simp only[aT,Ap];simp;exact ai0 32 Fn v h0 h1
  .exact Fn
 next hw=>simp[oU]at hw;simp[Ap,hw]
def de(v a:Int)(h0:0<=v)(h1:v<=18446744073709551615):0<=Ap v a/\Ap v a<=18446744073709551615:=by unfold Ap;split<;>(try split)<;>(try split)<;>omega
def wg(v a:Int)(w:World)(h0:0<=v)(h1:v<=18446744073709551615):
  Calls ZF 97 #[.int .u64 v,.int .i8 a] w fun e w'=>e=.returned (.int .u64 (eD v a))/\w=w':=by
 obtain⟨QU,hc2⟩:=de v a h0 h1;by_cases hw:oU a=ZB
 .have PF:=hw;simp[oU]at PF;rcases PF with((rfl|rfl)|rfl)|rfl
  all_goals
   go_enter Tryz.func97,Tryz.ntmps97
   go_wp2_with (first|(go_at_call 134;refine(ns _ _).mono ?_;rintro e w' ⟨rfl,rfl⟩)|(go_at_call 96;refine(iN _ _ _ Fn Fn).mono ?_;rintro e w' ⟨rfl,rfl⟩))
   all_goals go_ret
   all_goals (refine⟨bk ?_,rfl⟩)
  all_goals (rename_i hb;rw[and1 _ Fn Fn]at hb;simp[Ap]at QU hc2 hb;simp[Ap,eD,JS,aT];try (first|(split<;>omega)|omega))
 .go_enter Tryz.func97,Tryz.ntmps97
  go_wp2_with (first|(go_at_call 134;refine(ns _ _).mono ?_;rintro e w' ⟨rfl,rfl⟩)|(go_at_call 96;refine(iN _ _ _ Fn Fn).mono ?_;rintro e w' ⟨rfl,rfl⟩))
  go_ret
  refine⟨bk ?_,rfl⟩;simp[oU]at hw;simp[eD,hw]
def gN:Array Value:= #[.func (.func 163) #[] #[],.func (.func 164) #[] #[],.func (.func 165) #[] #[],.func (.func 166) #[] #[],.func (.func 167) #[] #[],.func (.func 168) #[] #[],.func (.func 169) #[] #[],.func (.func 170) #[] #[],.func (.func 171) #[] #[],.func (.func 172) #[] #[],.func (.func 173) #[] #[],.func (.func 174) #[] #[],.func (.func 175) #[] #[]]
def apD(w:World):
  Calls ZF 142 #[] w fun e w'=>e=.returned (.agg gN)/\Below w.heap.size w w':=by
 go_enter Tryz.func142,Tryz.ntmps142
 go_wp2
 exact bodyPost_ret (by simp[results,Tryz.results142,go_sem];rfl) rfl ⟨rfl,(Below.refl _ _).alloc (Nat.le_refl _) _⟩
def ix0(W:World):(Instr.index 216 (.agg gN) (.int .i8 0)).run ZF W=.ok (.func (.func 163) #[] #[]) W:=by kernel_rfl
def ix1(W:World):(Instr.index 216 (.agg gN) (.int .i8 1)).run ZF W=.ok (.func (.func 164) #[] #[]) W:=by kernel_rfl
def ix2(W:World):(Instr.index 216 (.agg gN) (.int .i8 2)).run ZF W=.ok (.func (.func 165) #[] #[]) W:=by kernel_rfl
def ix3(W:World):(Instr.index 216 (.agg gN) (.int .i8 3)).run ZF W=.ok (.func (.func 166) #[] #[]) W:=by kernel_rfl
def ix4(W:World):(Instr.index 216 (.agg gN) (.int .i8 4)).run ZF W=.ok (.func (.func 167) #[] #[]) W:=by kernel_rfl
def ix5(W:World):(Instr.index 216 (.agg gN) (.int .i8 5)).run ZF W=.ok (.func (.func 168) #[] #[]) W:=by kernel_rfl
def ix6(W:World):(Instr.index 216 (.agg gN) (.int .i8 6)).run ZF W=.ok (.func (.func 169) #[] #[]) W:=by kernel_rfl
def ix7(W:World):(Instr.index 216 (.agg gN) (.int .i8 7)).run ZF W=.ok (.func (.func 170) #[] #[]) W:=by kernel_rfl
def ix8(W:World):(Instr.index 216 (.agg gN) (.int .i8 8)).run ZF W=.ok (.func (.func 171) #[] #[]) W:=by kernel_rfl
def ix9(W:World):(Instr.index 216 (.agg gN) (.int .i8 9)).run ZF W=.ok (.func (.func 172) #[] #[]) W:=by kernel_rfl
def ix10(W:World):(Instr.index 216 (.agg gN) (.int .i8 10)).run ZF W=.ok (.func (.func 173) #[] #[]) W:=by kernel_rfl
def ix11(W:World):(Instr.index 216 (.agg gN) (.int .i8 11)).run ZF W=.ok (.func (.func 174) #[] #[]) W:=by kernel_rfl
def ix12(W:World):(Instr.index 216 (.agg gN) (.int .i8 12)).run ZF W=.ok (.func (.func 175) #[] #[]) W:=by kernel_rfl
def BR(op w a b y:Int):Int:=
 if op=0 then(a+b) % 18446744073709551616
 else if op=1 then(a-b) % 18446744073709551616
 else if op=2 then(a*b) % 18446744073709551616
 else if op=3 then(if b=0 then 0 else a / b)
 else if op=4 then((a.toNat ||| b.toNat:Nat):Int)
 else if op=5 then((a.toNat &&& b.toNat:Nat):Int)
 else if op=6 then(a*2 ^ y.toNat) % 18446744073709551616
 else if op=7 then a / 2 ^ y.toNat
 else if op=8 then(0-a) % 18446744073709551616
 else if op=9 then(if b=0 then a else a % b)
 else if op=10 then((a.toNat ^^^ b.toNat:Nat):Int)
 else if op=11 then b
 else(wrap64 (eD a w) / 2 ^ y.toNat) % 18446744073709551616
def BD(op w a b:Int):Int:=Ap (BR op w (Ap a w) (Ap b w) (Ap b w % w)) w
def apQ(a b y a1:Int)(w:World)(h0:0<=a)(h1:a<=18446744073709551615)(h2:0<=b)(h3:b<=18446744073709551615)(h4:0<=y)(h5:y<=63):
  Calls ZF 163 #[.int .u64 a,.int .u64 b,.int .u64 y,.int .i8 a1] w fun e w'=>e=.returned (.int .u64 (BR 0 a1 a b y))/\w=w':=by
 go_enter Tryz.func163,Tryz.ntmps163
 go_wp2
 all_goals go_ret
 all_goals (refine⟨bk ?_,rfl⟩)
 all_goals simp[BR,aT]
def apP(a b y a1:Int)(w:World)(h0:0<=a)(h1:a<=18446744073709551615)(h2:0<=b)(h3:b<=18446744073709551615)(h4:0<=y)(h5:y<=63):
  Calls ZF 164 #[.int .u64 a,.int .u64 b,.int .u64 y,.int .i8 a1] w fun e w'=>e=.returned (.int .u64 (BR 1 a1 a b y))/\w=w':=by
 go_enter Tryz.func164,Tryz.ntmps164
 go_wp2
 all_goals go_ret
 all_goals (refine⟨bk ?_,rfl⟩)
 all_goals simp[BR,aT]
def apO(a b y a1:Int)(w:World)(h0:0<=a)(h1:a<=18446744073709551615)(h2:0<=b)(h3:b<=18446744073709551615)(h4:0<=y)(h5:y<=63):
  Calls ZF 165 #[.int .u64 a,.int .u64 b,.int .u64 y,.int .i8 a1] w fun e w'=>e=.returned (.int .u64 (BR 2 a1 a b y))/\w=w':=by
 go_enter Tryz.func165,Tryz.ntmps165
 go_wp2
 all_goals go_ret
 all_goals (refine⟨bk ?_,rfl⟩)
 all_goals simp[BR,aT]
def apN(a b y a1:Int)(w:World)(h0:0<=a)(h1:a<=18446744073709551615)(h2:0<=b)(h3:b<=18446744073709551615)(h4:0<=y)(h5:y<=63):
  Calls ZF 166 #[.int .u64 a,.int .u64 b,.int .u64 y,.int .i8 a1] w fun e w'=>e=.returned (.int .u64 (BR 3 a1 a b y))/\w=w':=by
 by_cases hz:b=0
 .subst hz
  go_enter Tryz.func166,Tryz.ntmps166
  go_wp2
  all_goals go_ret
  all_goals (refine⟨bk ?_,rfl⟩)
  all_goals simp[BR]
 .go_enter Tryz.func166,Tryz.ntmps166
  go_wp2
  all_goals go_ret
  all_goals (refine⟨bk ?_,rfl⟩)
  all_goals simp[BR,hz]
def apM(a b y a1:Int)(w:World)(h0:0<=a)(h1:a<=18446744073709551615)(h2:0<=b)(h3:b<=18446744073709551615)(h4:0<=y)(h5:y<=63):
  Calls ZF 167 #[.int .u64 a,.int .u64 b,.int .u64 y,.int .i8 a1] w fun e w'=>e=.returned (.int .u64 (BR 4 a1 a b y))/\w=w':=by
 go_enter Tryz.func167,Tryz.ntmps167
 go_wp2
 all_goals go_ret
 all_goals (refine⟨bk ?_,rfl⟩)
 all_goals (rw[u64_or _ _ h0 Fn h2 Fn];simp[BR])
def apL(a b y a1:Int)(w:World)(h0:0<=a)(h1:a<=18446744073709551615)(h2:0<=b)(h3:b<=18446744073709551615)(h4:0<=y)(h5:y<=63):
  Calls ZF 168 #[.int .u64 a,.int .u64 b,.int .u64 y,.int .i8 a1] w fun e w'=>e=.returned (.int .u64 (BR 5 a1 a b y))/\w=w':=by
 go_enter Tryz.func168,Tryz.ntmps168
 go_wp2
 all_goals go_ret
 all_goals (refine⟨bk ?_,rfl⟩)
 all_goals (rw[u64_and _ _ h0 Fn h2 Fn];simp[BR])
def apK(a b y a1:Int)(w:World)(h0:0<=a)(h1:a<=18446744073709551615)(h2:0<=b)(h3:b<=18446744073709551615)(h4:0<=y)(h5:y<=63):
  Calls ZF 169 #[.int .u64 a,.int .u64 b,.int .u64 y,.int .i8 a1] w fun e w'=>e=.returned (.int .u64 (BR 6 a1 a b y))/\w=w':=by
 go_enter Tryz.func169,Tryz.ntmps169
 go_wp2
 all_goals go_ret
 all_goals (refine⟨bk ?_,rfl⟩)
 all_goals simp[BR,aT]
def apJ(a b y a1:Int)(w:World)(h0:0<=a)(h1:a<=18446744073709551615)(h2:0<=b)(h3:b<=18446744073709551615)(h4:0<=y)(h5:y<=63):
  Calls ZF 170 #[.int .u64 a,.int .u64 b,.int .u64 y,.int .i8 a1] w fun e w'=>e=.returned (.int .u64 (BR 7 a1 a b y))/\w=w':=by
 go_enter Tryz.func170,Tryz.ntmps170
 go_wp2
 all_goals go_ret
 all_goals (refine⟨bk ?_,rfl⟩)
 all_goals simp[BR]
def apI(a b y a1:Int)(w:World)(h0:0<=a)(h1:a<=18446744073709551615)(h2:0<=b)(h3:b<=18446744073709551615)(h4:0<=y)(h5:y<=63):
  Calls ZF 171 #[.int .u64 a,.int .u64 b,.int .u64 y,.int .i8 a1] w fun e w'=>e=.returned (.int .u64 (BR 8 a1 a b y))/\w=w':=by
 go_enter Tryz.func171,Tryz.ntmps171
 go_wp2
 all_goals go_ret
 all_goals (refine⟨bk ?_,rfl⟩)
 all_goals simp[BR,aT]
def apH(a b y a1:Int)(w:World)(h0:0<=a)(h1:a<=18446744073709551615)(h2:0<=b)(h3:b<=18446744073709551615)(h4:0<=y)(h5:y<=63):
  Calls ZF 172 #[.int .u64 a,.int .u64 b,.int .u64 y,.int .i8 a1] w fun e w'=>e=.returned (.int .u64 (BR 9 a1 a b y))/\w=w':=by
 by_cases hz:b=0
 .subst hz
  go_enter Tryz.func172,Tryz.ntmps172
  go_wp2
  all_goals go_ret
  all_goals (refine⟨bk ?_,rfl⟩)
  all_goals simp[BR]
 .go_enter Tryz.func172,Tryz.ntmps172
  go_wp2
  all_goals go_ret
  all_goals (refine⟨bk ?_,rfl⟩)
  all_goals simp[BR,hz]
def akw(a b y a1:Int)(w:World)(h0:0<=a)(h1:a<=18446744073709551615)(h2:0<=b)(h3:b<=18446744073709551615)(h4:0<=y)(h5:y<=63):
  Calls ZF 173 #[.int .u64 a,.int .u64 b,.int .u64 y,.int .i8 a1] w fun e w'=>e=.returned (.int .u64 (BR 10 a1 a b y))/\w=w':=by
 go_enter Tryz.func173,Tryz.ntmps173
 go_wp2
 all_goals go_ret
 all_goals (refine⟨bk ?_,rfl⟩)
 all_goals (rw[u64_xor _ _ h0 Fn h2 Fn];simp[BR])
def akv(a b y a1:Int)(w:World)(h0:0<=a)(h1:a<=18446744073709551615)(h2:0<=b)(h3:b<=18446744073709551615)(h4:0<=y)(h5:y<=63):
  Calls ZF 174 #[.int .u64 a,.int .u64 b,.int .u64 y,.int .i8 a1] w fun e w'=>e=.returned (.int .u64 (BR 11 a1 a b y))/\w=w':=by
 go_enter Tryz.func174,Tryz.ntmps174
 go_wp2
 all_goals go_ret
 all_goals (refine⟨bk ?_,rfl⟩)
 all_goals simp[BR]
def aku(a b y a1:Int)(w:World)(h0:0<=a)(h1:a<=18446744073709551615)(h2:0<=b)(h3:b<=18446744073709551615)(h4:0<=y)(h5:y<=63):
  Calls ZF 175 #[.int .u64 a,.int .u64 b,.int .u64 y,.int .i8 a1] w fun e w'=>e=.returned (.int .u64 (BR 12 a1 a b y))/\w=w':=by
 go_enter Tryz.func175,Tryz.ntmps175
 go_wp2_with (go_at_call 176;refine(aj7 _ _ _ Fn Fn).mono ?_;rintro e w' ⟨rfl,rfl⟩)
 all_goals go_ret
 all_goals (refine⟨bk ?_,rfl⟩)
 all_goals simp[BR,aT]
attribute [local go_sem] ix0 ix1 ix2 ix3 ix4 ix5 ix6 ix7 ix8 ix9 ix10 ix11 ix12
def tV(h4:0<=op)(h5:op<=12):op=0\/op=1\/op=2\/op=3\/op=4\/op=5\/op=6\/op=7\/op=8\/op=9\/op=10\/op=11\/op=12:=by omega
def ar6(k:Nat):(0:Int)<2 ^ k:=Int.pow_pos Fn
def adF(op w a b y:Int)(h0:0<=a)(h1:a<=18446744073709551615)(h2:0<=b)(h3:b<=18446744073709551615):0<=BR op w a b y/\BR op w a b y<=18446744073709551615:=by
 have e1:=Int.ediv_nonneg h0 h2;have e2:=Int.ediv_le_self b h0;have e3:=Nat.or_lt_two_pow (n:=64) (x:=a.toNat) (y:=b.toNat) Fn Fn;have e4:=Nat.and_le_left (n:=a.toNat) (m:=b.toNat);have e5:=Nat.xor_lt_two_pow (n:=64) (x:=a.toNat) (y:=b.toNat) Fn Fn;have e6:=Int.ediv_nonneg h0 (Int.le_of_lt (ar6 y.toNat));have e7:=Int.ediv_le_self (2 ^ y.toNat) h0;have e8:b≠0->0<=a % b/\a % b<b:=fun h=>⟨Int.emod_nonneg a h,Int.emod_lt_of_pos a Fn⟩
 unfold BR
 repeat' split
 all_goals omega
def Ro(w b:Int)(h2:0<=b)(h3:b<=18446744073709551615)(hw:fB w=ZB):bits .and .u64 b (w-1)=b % w/\32<=w/\w<=64/\0<=b % w/\b % w<=63:=by
 simp[fB]at hw;rcases hw with rfl|rfl
 .exact⟨are b h2 h3,by omega,by omega,by omega,by omega⟩
 .exact⟨ard b h2 h3,by omega,by omega,by omega,by omega⟩
def atP(op w1 a b:Int)(w:World)(h0:0<=a)(h1:a<=18446744073709551615)(h2:0<=b)(h3:b<=18446744073709551615)(h4:0<=op)(h5:op<=12)(hw:fB w1=ZB):
  Calls ZF 108 #[.int .i8 op,.int .i8 w1,.int .u64 a,.int .u64 b] w fun e w'=>e=.returned (.tuple #[.int .u64 (BD op w1 a b),.int .i64 0])/\Below w.heap.size w w':=by
 obtain⟨AZ,Cj⟩:=de a w1 h0 h1;obtain⟨I4,DV⟩:=de b w1 h2 h3;obtain⟨hy,R4,Ks,Qd,Vr⟩:=Ro w1 (Ap b w1) I4 DV hw;obtain⟨Ex,LA⟩:=adF op w1 (Ap a w1) (Ap b w1) (Ap b w1 % w1) AZ Cj I4 DV;rcases tV h4 h5 with rfl|rfl|rfl|rfl|rfl|rfl|rfl|rfl|rfl|rfl|rfl|rfl|rfl
 all_goals
  go_enter Tryz.func108,Tryz.ntmps108
  go_wp2_with (first
   |(go_at_call 140;refine(abz _ _).mono ?_;rintro e w' ⟨rfl,rfl⟩)
   |(go_at_call 141;refine(aiy _ _ _ Fn Fn).mono ?_;rintro e w' ⟨rfl,rfl⟩)
   |(go_at_call 142;refine(apD _).mono ?_;rintro e w1 ⟨rfl,I4⟩)
   |(go_at_call 163;refine(apQ _ _ _ _ _ Fn Fn Fn Fn Fn Fn).mono ?_;rintro e w' ⟨rfl,rfl⟩)
   |(go_at_call 164;refine(apP _ _ _ _ _ Fn Fn Fn Fn Fn Fn).mono ?_;rintro e w' ⟨rfl,rfl⟩)
   |(go_at_call 165;refine(apO _ _ _ _ _ Fn Fn Fn Fn Fn Fn).mono ?_;rintro e w' ⟨rfl,rfl⟩)
   |(go_at_call 166;refine(apN _ _ _ _ _ Fn Fn Fn Fn Fn Fn).mono ?_;rintro e w' ⟨rfl,rfl⟩)
   |(go_at_call 167;refine(apM _ _ _ _ _ Fn Fn Fn Fn Fn Fn).mono ?_;rintro e w' ⟨rfl,rfl⟩)
   |(go_at_call 168;refine(apL _ _ _ _ _ Fn Fn Fn Fn Fn Fn).mono ?_;rintro e w' ⟨rfl,rfl⟩)
   |(go_at_call 169;refine(apK _ _ _ _ _ Fn Fn Fn Fn Fn Fn).mono ?_;rintro e w' ⟨rfl,rfl⟩)
   |(go_at_call 170;refine(apJ _ _ _ _ _ Fn Fn Fn Fn Fn Fn).mono ?_;rintro e w' ⟨rfl,rfl⟩)
   |(go_at_call 171;refine(apI _ _ _ _ _ Fn Fn Fn Fn Fn Fn).mono ?_;rintro e w' ⟨rfl,rfl⟩)
   |(go_at_call 172;refine(apH _ _ _ _ _ Fn Fn Fn Fn Fn Fn).mono ?_;rintro e w' ⟨rfl,rfl⟩)
   |(go_at_call 173;refine(akw _ _ _ _ _ Fn Fn Fn Fn Fn Fn).mono ?_;rintro e w' ⟨rfl,rfl⟩)
   |(go_at_call 174;refine(akv _ _ _ _ _ Fn Fn Fn Fn Fn Fn).mono ?_;rintro e w' ⟨rfl,rfl⟩)
   |(go_at_call 175;refine(aku _ _ _ _ _ Fn Fn Fn Fn Fn Fn).mono ?_;rintro e w' ⟨rfl,rfl⟩))
  go_ret2
  exact⟨rfl,‹_›⟩
def atO(op w1 a b:Int)(w:World)(HZ:(decide (op<0)||decide (12<op) ||!fB w1)=ZB):
  Calls ZF 108 #[.int .i8 op,.int .i8 w1,.int .u64 a,.int .u64 b] w fun e w'=>e=.returned (.tuple #[.int .u64 0,.int .i64 2])/\w=w':=by
 have hc:op<0\/(0<=op/\12<op)\/(0<=op/\op<=12/\fB w1=ZC):=by
  by_cases h1:op<0
  .exact .inl h1
  .by_cases h2:12<op
   .exact Ym
   .exact XO
 clear HZ;rcases hc with h|⟨h,h'⟩|⟨h,h',hw⟩
 all_goals
  go_enter Tryz.func108,Tryz.ntmps108
  go_wp2_with (go_at_call 140;refine(abz _ _).mono ?_;rintro e w' ⟨rfl,rfl⟩)
  go_ret2
  exact⟨rfl,rfl⟩
def apv(op w1 a b:Int)(w:World)(HZ:(decide (op<0)||decide (12<op) ||!fB w1)=ZB):
  Calls ZF 54 #[.int .i8 op,.int .i8 w1,.int .u64 a,.int .u64 b] w fun e w'=>e=.returned (.tuple #[.int .u64 0,.int .i64 2])/\w=w':=by
 have hc:op<0\/(0<=op/\12<op)\/(0<=op/\op<=12/\fB w1=ZC):=by
  by_cases h1:op<0
  .exact .inl h1
  .by_cases h2:12<op
   .exact Ym
   .exact XO
 clear HZ;rcases hc with h|⟨h,h'⟩|⟨h,h',hw⟩
 all_goals
  go_enter Tryz.func54,Tryz.ntmps54
  go_wp2_with (go_at_call 95;refine(ml _ _).mono ?_;rintro e w' ⟨rfl,rfl⟩)
  go_ret2
  exact⟨rfl,rfl⟩
def apx(x v a:Int)(w:World)(hx:x=v)(h0:0<=v)(h1:v<=18446744073709551615):
  Calls ZF 96 #[.int .u64 x,.int .i8 a] w fun e w'=>e=.returned (.int .u64 (Ap v a))/\w=w':=by
 subst hx;exact iN x a w h0 h1
def apw(op w1 a b:Int)(w:World)(h0:0<=a)(h1:a<=18446744073709551615)(h2:0<=b)(h3:b<=18446744073709551615)(h4:0<=op)(h5:op<=12)(hw:fB w1=ZB):
  Calls ZF 54 #[.int .i8 op,.int .i8 w1,.int .u64 a,.int .u64 b] w fun e w'=>e=.returned (.tuple #[.int .u64 (BD op w1 a b),.int .i64 0])/\w=w':=by
 obtain⟨AZ,Cj⟩:=de a w1 h0 h1;obtain⟨I4,DV⟩:=de b w1 h2 h3;obtain⟨hy,R4,Ks,Qd,Vr⟩:=Ro w1 (Ap b w1) I4 DV hw;obtain⟨Ex,LA⟩:=adF op w1 (Ap a w1) (Ap b w1) (Ap b w1 % w1) AZ Cj I4 DV;rcases tV h4 h5 with rfl|rfl|rfl|rfl|rfl|rfl|rfl|rfl|rfl|rfl|rfl|rfl|rfl
 all_goals
  go_enter Tryz.func54,Tryz.ntmps54
  go_wp2_with (first
   |(go_at_call 95;refine(ml _ _).mono ?_;rintro e w' ⟨rfl,rfl⟩)
   |(go_at_call 97;refine(wg _ _ _ Fn Fn).mono ?_;rintro e w' ⟨rfl,rfl⟩)
   |(go_at_call 96;with_reducible refine(iN a _ _ Fn Fn).mono ?_;rintro e w' ⟨rfl,rfl⟩)
   |(go_at_call 96;with_reducible refine(iN b _ _ Fn Fn).mono ?_;rintro e w' ⟨rfl,rfl⟩)
   |(go_at_call 96;refine Calls.mono (apx _ _ _ _ ?_ Ex LA) ?_;rotate_left 1;rintro e w' ⟨rfl,rfl⟩))
 all_goals first
  |(go_ret2;exact⟨rfl,rfl⟩)
  |(rw[u64_or _ _ AZ Fn I4 Fn];simp[BR];done)
  |(rw[u64_and _ _ AZ Fn I4 Fn];simp[BR];done)
  |(rw[u64_xor _ _ AZ Fn I4 Fn];simp[BR];done)
  |(simp[BR,aT];done)
  | (have:Ap b w1=0:=by omega
     simp[BR,this];done)
  | (have:Ap b w1≠0:=by omega
     simp[BR,this];done)
def dK(v:Int):Ap v 32=v % 4294967296:=by simp[Ap]
def dJ(v:Int):Ap v 64=v:=by simp[Ap]
def ey(op w a b:Int)(h0:0<=a)(h1:a<=18446744073709551615)(h2:0<=b)(h3:b<=18446744073709551615):0<=BD op w a b/\BD op w a b<=18446744073709551615:=by obtain⟨AZ,Cj⟩:=de a w h0 h1;obtain⟨I4,DV⟩:=de b w h2 h3;obtain⟨Ex,LA⟩:=adF op w (Ap a w) (Ap b w) (Ap b w % w) AZ Cj I4 DV;exact de _ _ Ex LA
def ju(v w:Int):Ap (Ap v w) w=Ap v w:=by unfold Ap;split<;>(try split)<;>(try split)<;>omega
def zD(op w a b:Int):BD op w (Ap a w) (Ap b w)=BD op w a b:=by unfold BD;rw[ju,ju]
def aji(op w a b:Int):Ap (BD op w a b) w=BD op w a b:=by unfold BD;rw[ju]
structure Rg where
 ul:Int
 uh:Int
 sl:Int
 sh:Int
 deriving DecidableEq
def Rg.wf(r:Rg):Prop:=(0<=r.ul/\r.ul<=18446744073709551615)/\(0<=r.uh/\r.uh<=18446744073709551615)/\(-9223372036854775808<=r.sl/\r.sl<=9223372036854775807)/\(-9223372036854775808<=r.sh/\r.sh<=9223372036854775807)
abbrev BZ(v:Int):Int:=wrap64 v
def bS(v:Int):BZ v=ZG .i64 v:=(Go.IntWalk.i64_left v).symm
abbrev u64(v:Int):Int:=ZG .u64 v
def iZ(h0:0<=v)(h1:v<=18446744073709551615):BZ v=if v<9223372036854775808 then v else v-18446744073709551616:=by rw[bS,aP];split<;>omega
def fV(v:Int) : -9223372036854775808<=BZ v/\BZ v<=9223372036854775807:=by rw[bS,aP];omega
def alX(h0 : -9223372036854775808<=v)(h1:v<=9223372036854775807):u64 v=if 0<=v then v else v+18446744073709551616:=by unfold u64;rw[aT];split<;>omega
def alY(v:Int):0<=u64 v/\u64 v<=18446744073709551615:=by unfold u64;rw[aT];omega
def ball:Rg:=⟨0,18446744073709551615,-9223372036854775808,9223372036854775807⟩
def HG(v:Int):Rg:=⟨v,v,BZ v,BZ v⟩
def AS(r:Rg):Bool:=decide (r.ul<=r.uh)&&decide (r.sl<=r.sh)
def AF(r:Rg)(v:Int):Bool:=AS r&&((decide (r.ul<=v)&&decide (v<=r.uh))&&(decide (r.sl<=BZ v)&&decide (BZ v<=r.sh)))
def KN(v:Int):Bool:=decide (9223372036854775808<=v)
def Bb(r:Rg):Rg:=if KN r.ul=KN r.uh then⟨r.ul,r.uh,max r.sl (BZ r.ul),min r.sh (BZ r.uh)⟩else r
def CY(r:Rg):Rg:=if decide (r.sl<0)=decide (r.sh<0)then⟨max r.ul (u64 r.sl),min r.uh (u64 r.sh),r.sl,r.sh⟩else r
def Bc(r:Rg):Bool:=AS r&&(AS (Bb r)&&(AS (CY (Bb r))&&AS (Bb (CY (Bb r)))))
def AG(r:Rg):Rg:=if Bc r=ZB then Bb (CY (Bb r))else ball
def em(r:Rg):Bool:=decide (r.ul=r.uh)&&AF r r.ul
def aC(r:Rg):Int:=if em r=ZB then r.ul else 0
def mR(a b:Rg):Rg:=⟨min a.ul b.ul,max a.uh b.uh,min a.sl b.sl,max a.sh b.sh⟩
def lr(a b:Rg):Rg:=⟨max a.ul b.ul,min a.uh b.uh,max a.sl b.sl,min a.sh b.sh⟩
def js(a b:Rg):Rg:=if AS a=ZB/\AS b=ZB then mR a b else ball
def fh(a b:Rg):Bool:=AS a&&(AS b&&Bc (lr a b))
def jr(a b:Rg):Rg:=if fh a b=ZB then AG (lr a b)else ball
def NR(a b:Rg):Bool:=AS a&&(AS b&&decide (js a b=b))
def dl(r:Rg):AS r=ZB↔r.ul<=r.uh/\r.sl<=r.sh:=by simp[AS]
def aM(r:Rg)(v:Int):AF r v=ZB↔r.ul<=v/\v<=r.uh/\r.sl<=BZ v/\BZ v<=r.sh:=by
 simp only[AF,AS,ne,aB];constructor
 .rintro ⟨_,⟨h1,h2⟩,h3,h4⟩;exact⟨h1,h2,h3,h4⟩
 .rintro ⟨h1,h2,h3,h4⟩;exact⟨⟨by omega,by omega⟩,⟨h1,h2⟩,h3,h4⟩
def atp(a b:Int):KN a=KN b↔(9223372036854775808<=a↔9223372036854775808<=b):=by unfold KN;exact decide_eq_decide
def df{r:Rg}(h:r.wf):(Bb r).wf:=by
 unfold Bb;split
 .have h1:=fV r.ul;have h2:=fV r.uh;obtain⟨a1,a2,a3,a4⟩:=h;refine⟨a1,a2,?_,?_⟩<;>simp only<;>omega
 .exact h
def dM{r:Rg}(h:r.wf):(CY r).wf:=by
 unfold CY;split
 .have h1:=alY r.sl;have h2:=alY r.sh;obtain⟨a1,a2,a3,a4⟩:=h;refine⟨?_,?_,a3,a4⟩<;>simp only<;>omega
 .exact h
def fi:ball.wf:=by unfold Rg.wf ball;simp
def sR{r:Rg}(h:r.wf):(AG r).wf:=by
 unfold AG;split
 .exact df (dM (df h))
 .exact fi
def xH(h0:0<=v)(h1:v<=18446744073709551615):(HG v).wf:=⟨⟨h0,h1⟩,⟨h0,h1⟩,fV v,fV v⟩
def mT{r:Rg}(h:r.wf)(h0:0<=v)(h1:v<=18446744073709551615):AF (Bb r) v=AF r v:=by
 rw[aj,aM,aM];unfold Bb;split
 next hh=>rw[atp]at hh;obtain⟨a1,a2,a3,a4⟩:=h;simp only;rw[iZ h0 h1,iZ a1.1 a1.2,iZ a2.1 a2.2];split<;>split<;>split<;>omega
 .exact Iff.rfl
def xy{r:Rg}(h:r.wf)(h0:0<=v)(h1:v<=18446744073709551615):AF (CY r) v=AF r v:=by
 rw[aj,aM,aM];unfold CY;split
 next hh=>rw[decide_eq_decide]at hh;obtain⟨a1,a2,a3,a4⟩:=h;simp only;rw[iZ h0 h1,alX a3.1 a3.2,alX a4.1 a4.2];split<;>split<;>split<;>omega
 .exact Iff.rfl
def cW{r:Rg}(h:AF r v=ZB):AS r=ZB:=by unfold AF at h;rw[ne]at h;exact h.1
def uD{r:Rg}(h:r.wf)(h0:0<=v)(h1:v<=18446744073709551615)(hv:AF r v=ZB):Bc r=ZB:=by have e1:=mT h h0 h1;have e2:=xy (df h) h0 h1;have e3:=mT (dM (df h)) h0 h1;rw[hv]at e1;rw[e1]at e2;rw[e2]at e3;simp[Bc,cW hv,cW e1,cW e2,cW e3]
def qJ{r:Rg}(h:r.wf)(h0:0<=v)(h1:v<=18446744073709551615)(hk:Bc r=ZB):AF (AG r) v=AF r v:=by unfold AG;rw[if_pos hk,mT (dM (df h)) h0 h1,xy (df h) h0 h1,mT h h0 h1]
def aiP{r:Rg}(hk:Bc r=ZB):AS (AG r)=ZB:=by have:=hk;unfold Bc at this;simp only[ne]at this;unfold AG;rw[if_pos hk];exact this.2.2.2
def qF{r:Rg}(h:em r=ZB)(h0:0<=v)(h1:v<=18446744073709551615):AF r v=decide (v=r.ul):=by
 unfold em at h;rw[ne,aB]at h;obtain⟨e,hh⟩:=h;by_cases hv:v=r.ul
 .rw[hv,hh];simp
 .rw[eY hv];cases hb:AF r v
  .rfl
  .have:=(aM r v).1 hb;omega
def LG(x:Int)(i:Nat):Bool:=(ZL 64 x).getLsbD i
def aiL(x:BitVec 64):ZL 64 (x.toNat:Int)=x:=by simp
def acd(x:Int):ZL 64 (ZG .i64 x)=ZL 64 x:=by apply BitVec.eq_of_toNat_eq;rw[BitVec.toNat_ofInt,BitVec.toNat_ofInt,aP];omega
def aq7(x y:Int):ZL 64 (bits .and .i64 x y)=ZL 64 x &&& ZL 64 y:=(acd _).trans (aiL _)
def aq6(x y:Int):ZL 64 (bits .xor .i64 x y)=ZL 64 x ^^^ ZL 64 y:=(acd _).trans (aiL _)
def aeF(x y:Int)(i:Nat):LG (bits .and .i64 x y) i=(LG x i&&LG y i):=by unfold LG;rw[aq7,BitVec.getLsbD_and]
def tf(x y:Int)(i:Nat):LG (bits .xor .i64 x y) i=(LG x i ^^ LG y i):=by unfold LG;rw[aq6,BitVec.getLsbD_xor]
def oc(h0 : -9223372036854775808<=x)(h1:x<=9223372036854775807):decide (x<0)=LG x 63:=by unfold LG;rw[BitVec.getLsbD,Nat.testBit_eq_decide_div_mod_eq,decide_eq_decide,BitVec.toNat_ofInt];omega
def alb(op:BinOp)(x y:Int):∃z,bits op .i64 x y=ZG .i64 z:=⟨_,rfl⟩
def amW(op:BinOp)(x y:Int) : -9223372036854775808<=bits op .i64 x y/\bits op .i64 x y<=9223372036854775807:=by obtain⟨z,h⟩:=alb op x y;rw[h,<-bS];exact fV z
def agR{b:Int}(a0 : -9223372036854775808<=a)(a1:a<=9223372036854775807)(b0 : -9223372036854775808<=b)(b1:b<=9223372036854775807):
  decide (0<=bits .and .i64 (bits .xor .i64 a (wrap64 (a+b))) (bits .xor .i64 b (wrap64 (a+b))))=decide (-9223372036854775808<=a+b/\a+b<=9223372036854775807):=by
 have hs:=fV (a+b);have hw:BZ (a+b)=(a+b+9223372036854775808) % 18446744073709551616-9223372036854775808:=by rw[bS];exact aP _
 have hb:=amW .and (bits .xor .i64 a (BZ (a+b))) (bits .xor .i64 b (BZ (a+b)));have e:=oc hb.1 hb.2;rw[aeF,tf,tf,<-oc a0 a1,<-oc b0 b1,<-oc hs.1 hs.2]at e;show decide (0<=bits .and .i64 (bits .xor .i64 a (BZ (a+b))) (bits .xor .i64 b (BZ (a+b))))=_;generalize bits .and .i64 (bits .xor .i64 a (BZ (a+b))) (bits .xor .i64 b (BZ (a+b)))=t at e hb;generalize BZ (a+b)=s at *;rw[decide_eq_decide];by_cases h1:a<0<;>by_cases h2:b<0<;>by_cases h3:s<0<;>simp[h1,h2,h3]at e<;>omega
def ac0{b:Int}(a0 : -9223372036854775808<=a)(a1:a<=9223372036854775807)(b0 : -9223372036854775808<=b)(b1:b<=9223372036854775807):
  decide (0<=bits .and .i64 (bits .xor .i64 a b) (bits .xor .i64 a (wrap64 (a-b))))=decide (-9223372036854775808<=a-b/\a-b<=9223372036854775807):=by
 have hs:=fV (a-b);have hw:BZ (a-b)=(a-b+9223372036854775808) % 18446744073709551616-9223372036854775808:=by rw[bS];exact aP _
 have hb:=amW .and (bits .xor .i64 a b) (bits .xor .i64 a (BZ (a-b)));have e:=oc hb.1 hb.2;rw[aeF,tf,tf,<-oc a0 a1,<-oc b0 b1,<-oc hs.1 hs.2]at e;show decide (0<=bits .and .i64 (bits .xor .i64 a b) (bits .xor .i64 a (BZ (a-b))))=_;generalize bits .and .i64 (bits .xor .i64 a b) (bits .xor .i64 a (BZ (a-b)))=t at e hb;generalize BZ (a-b)=s at *;rw[decide_eq_decide];by_cases h1:a<0<;>by_cases h2:b<0<;>by_cases h3:s<0<;>simp[h1,h2,h3]at e<;>omega
def ax(n:Nat):Nat:=if n=0 then 0 else Nat.log2 n+1
def kW(v:Int):Int:=2 ^ ax v.toNat-1
def qH(n:Nat):n<2 ^ ax n:=by
 unfold ax;split
 .subst_vars;simp
 .exact Nat.lt_log2_self
def aiQ(h:n≠0):2 ^ (ax n-1)<=n:=by unfold ax;rw[if_neg h];exact Nat.log2_self_le h
def gz{k:Nat}(h:n<2 ^ k):ax n<=k:=by
 rcases Nat.eq_zero_or_pos n with h0|h0
 .simp[ax,h0]
 .have h1:=aiQ (n:=n) Fn;rcases bt k (ax n)with hk|hk
  .have:2 ^ k<=2 ^ (ax n-1):=ZV Fn Fn;omega
  .exact hk
def acj(h0:0<=v)(h:v.toNat<2 ^ ax m.toNat):v<=kW m:=by
 unfold kW;have:((2:Int) ^ ax m.toNat)=((2 ^ ax m.toNat:Nat):Int):=by simp
 rw[this];omega
def uE(h:v<=18446744073709551615):0<=kW v/\kW v<=18446744073709551615:=by
 have h1:v.toNat<2 ^ 64:=Fn;have h2:=gz h1;have h3:2 ^ ax v.toNat<=2 ^ 64:=ZV Fn h2;have h4:0<2 ^ ax v.toNat:=Nat.pow_pos Fn;unfold kW;have:((2:Int) ^ ax v.toNat)=((2 ^ ax v.toNat:Nat):Int):=by simp
 rw[this];omega
def E8(a b:Rg):Rg:=
 ⟨if a.uh+b.uh<=18446744073709551615 then a.ul+b.ul else 0,if a.uh+b.uh<=18446744073709551615 then a.uh+b.uh else 18446744073709551615,
  if(-9223372036854775808<=a.sl+b.sl/\a.sl+b.sl<=9223372036854775807)/\(-9223372036854775808<=a.sh+b.sh/\a.sh+b.sh<=9223372036854775807)then a.sl+b.sl else -9223372036854775808,
  if(-9223372036854775808<=a.sl+b.sl/\a.sl+b.sl<=9223372036854775807)/\(-9223372036854775808<=a.sh+b.sh/\a.sh+b.sh<=9223372036854775807)then a.sh+b.sh else 9223372036854775807⟩
def FE(a b:Rg):Rg:=
 ⟨if b.uh<=a.ul then a.ul-b.uh else 0,if b.uh<=a.ul then a.uh-b.ul else 18446744073709551615,
  if(-9223372036854775808<=a.sl-b.sh/\a.sl-b.sh<=9223372036854775807)/\(-9223372036854775808<=a.sh-b.sl/\a.sh-b.sl<=9223372036854775807)then a.sl-b.sh else -9223372036854775808,
  if(-9223372036854775808<=a.sl-b.sh/\a.sl-b.sh<=9223372036854775807)/\(-9223372036854775808<=a.sh-b.sl/\a.sh-b.sl<=9223372036854775807)then a.sh-b.sl else 9223372036854775807⟩
def bu(l h:Int):Rg:=⟨l,h,-9223372036854775808,9223372036854775807⟩
def Hu(b:Rg):Nat:=(b.ul % 64).toNat
def CW(op:Int)(a b:Rg):Rg:=
 if op=11 then b else if op=0 then E8 a b else if op=1 then FE a b
 else if op=5 then bu 0 (min a.uh b.uh)
 else if op=4 then bu (max a.ul b.ul) (kW (max a.uh b.uh))
 else if op=10 then bu 0 (kW (max a.uh b.uh))
 else if op=3 then(if 0<b.ul then bu (a.ul / b.uh) (a.uh / b.ul)else bu 0 a.uh)
 else if op=9 then(if 0<b.ul then bu 0 (min a.uh (b.uh-1))else bu 0 a.uh)
 else if op=7 then(if em b=ZB then bu (a.ul / 2 ^ Hu b) (a.uh / 2 ^ Hu b)else ball)
 else if op=6 then(if em b=ZB/\ax a.uh.toNat+Hu b<=64 then bu (a.ul*2 ^ Hu b) (a.uh*2 ^ Hu b)else ball)
 else ball
def D0(op:Int)(a b:Rg):Rg:=if AS a=ZB/\AS b=ZB then AG (CW op a b)else ball
def kM(v:Int)(h0:0<=v)(h1:v<=18446744073709551615):AF ball v=ZB:=by rw[aM];have:=fV v;exact⟨h0,h1,this.1,this.2⟩
def kg{l h:Int}(h0:l<=v)(h1:v<=h):AF (bu l h) v=ZB:=by rw[aM];have:=fV v;exact⟨h0,h1,this.1,this.2⟩
def ahY{r:Rg}(hr:r.wf)(h0:0<=v)(h1:v<=18446744073709551615)(h:AF r v=ZB):AF (AG r) v=ZB:=by rw[qJ hr h0 h1 (uD hr h0 h1 h),h]
def aqH{a b:Rg}(ha:a.wf)(hb:b.wf)(v0:0<=v)(v1:v<=18446744073709551615)(w0:0<=w)(w1:w<=18446744073709551615)(h1:AF a v=ZB)(h2:AF b w=ZB):
  AF (E8 a b) ((v+w) % 18446744073709551616)=ZB:=by
 rw[aM]at h1 h2 ⊢;rw[iZ v0 v1]at h1;rw[iZ w0 w1]at h2;rw[iZ Fn Fn];obtain⟨a1,a2,a3,a4⟩:=ha;obtain⟨b1,b2,b3,b4⟩:=hb;unfold E8;simp only;refine⟨?_,?_,?_,?_⟩
 .exact YP
 .exact YP
 .exact XP
 .exact XP
def aqI{a b:Rg}(ha:a.wf)(hb:b.wf)(v0:0<=v)(v1:v<=18446744073709551615)(w0:0<=w)(w1:w<=18446744073709551615)(h1:AF a v=ZB)(h2:AF b w=ZB):
  AF (FE a b) ((v-w) % 18446744073709551616)=ZB:=by
 rw[aM]at h1 h2 ⊢;rw[iZ v0 v1]at h1;rw[iZ w0 w1]at h2;rw[iZ Fn Fn];obtain⟨a1,a2,a3,a4⟩:=ha;obtain⟨b1,b2,b3,b4⟩:=hb;unfold FE;simp only;refine⟨?_,?_,?_,?_⟩
 .exact YP
 .exact YP
 .exact XP
 .exact XP
def pj{l h:Int}(h0:0<=l)(h1:l<=18446744073709551615)(h2:0<=h)(h3:h<=18446744073709551615):(bu l h).wf:=⟨⟨h0,h1⟩,⟨h2,h3⟩,by simp[bu],by simp[bu]⟩
def aor{a b:Rg}(ha:a.wf)(hb:b.wf)(h1:AS a=ZB)(h2:AS b=ZB):(E8 a b).wf:=by rw[dl]at h1 h2;obtain⟨a1,a2,a3,a4⟩:=ha;obtain⟨b1,b2,b3,b4⟩:=hb;unfold E8;refine⟨?_,?_,?_,?_⟩<;>simp only<;>split<;>omega
def aos{a b:Rg}(ha:a.wf)(hb:b.wf)(h1:AS a=ZB)(h2:AS b=ZB):(FE a b).wf:=by rw[dl]at h1 h2;obtain⟨a1,a2,a3,a4⟩:=ha;obtain⟨b1,b2,b3,b4⟩:=hb;unfold FE;refine⟨?_,?_,?_,?_⟩<;>simp only<;>split<;>omega
def ama(h0:0<=x)(k:Nat):0<=x / 2 ^ k/\x / 2 ^ k<=x:=by have hp:(0:Int)<2 ^ k:=Int.pow_pos Fn;refine⟨Int.ediv_nonneg h0 Fn,Int.ediv_le_self _ h0⟩
def afl(h0:0<=x)(hy:x<=y){k:Nat}(h:ax y.toNat+k<=64):0<=x*2 ^ k/\x*2 ^ k<=y*2 ^ k/\y*2 ^ k<=18446744073709551615:=by
 have hp:(0:Int)<2 ^ k:=Int.pow_pos Fn;refine⟨Int.mul_nonneg h0 Fn,Int.mul_le_mul_of_nonneg_right hy Fn,?_⟩;have h1:=qH y.toNat;have h2:(y.toNat+1)*2 ^ k<=2 ^ ax y.toNat*2 ^ k:=Nat.mul_le_mul_right _ Fn;rw[<-Nat.pow_add]at h2;have h3:2 ^ (ax y.toNat+k)<=2 ^ 64:=ZV Fn h;have h4:0<2 ^ k:=Nat.pow_pos Fn;have e:y*2 ^ k=((y.toNat*2 ^ k:Nat):Int):=by have:((y.toNat:Nat):Int)=y:=Fn;rw[Int.natCast_mul,this];simp
 rw[e];rw[Nat.add_mul]at h2;omega
def ab7(h0:0<=x)(hz:0<z)(h:z<=y):x / y<=x / z:=by have hy:0<y:=Fn;refine Int.le_ediv_of_mul_le hz ?_;have h1:x / y*z<=x / y*y:=Int.mul_le_mul_of_nonneg_left h (Int.ediv_nonneg h0 Fn);have h2:=Int.ediv_mul_le x (show y≠0 by omega);omega
def ait(h0:0<=x)(h1:x<=18446744073709551615)(hy:0<y):0<=x / y/\x / y<=18446744073709551615:=by have:=Int.ediv_le_self y h0;exact⟨Int.ediv_nonneg h0 Fn,by omega⟩
def adQ{a b:Rg}(ha:a.wf)(hb:b.wf)(h1:AS a=ZB)(h2:AS b=ZB):(CW op a b).wf:=by
 have m1:=(dl a).1 h1;have m2:=(dl b).1 h2;have C0:=ha;have Ew:=hb;obtain⟨a1,a2,a3,a4⟩:=C0;obtain⟨b1,b2,b3,b4⟩:=Ew;have f:=uE (v:=max a.uh b.uh) Fn;unfold CW;by_cases o11:op=11
 .rw[if_pos o11];exact hb
 rw[if_neg o11];by_cases o0:op=0
 .rw[if_pos o0];exact aor ha hb h1 h2
 rw[if_neg o0];by_cases o1:op=1
 .rw[if_pos o1];exact aos ha hb h1 h2
 rw[if_neg o1];by_cases o5:op=5
 .rw[if_pos o5];exact pj Fn Fn Fn Fn
 rw[if_neg o5];by_cases o4:op=4
 .rw[if_pos o4];exact pj Fn Fn f.1 f.2
 rw[if_neg o4];by_cases o10:op=10
 .rw[if_pos o10];exact pj Fn Fn f.1 f.2
 rw[if_neg o10];by_cases o3:op=3
 .rw[if_pos o3];split
  .have e1:=ait (z:=0) a1.1 a1.2 (show 0<b.uh by omega);have e2:=ait (z:=0) a2.1 a2.2 (show 0<b.ul by omega);exact pj e1.1 e1.2 e2.1 e2.2
  .exact pj Fn Fn Fn Fn
 rw[if_neg o3];by_cases o9:op=9
 .rw[if_pos o9];split
  .exact pj Fn Fn Fn Fn
  .exact pj Fn Fn Fn Fn
 rw[if_neg o9];by_cases o7:op=7
 .rw[if_pos o7];split
  .have e1:=ama a1.1 (Hu b);have e2:=ama a2.1 (Hu b);exact pj e1.1 Fn e2.1 Fn
  .exact fi
 rw[if_neg o7];by_cases o6:op=6
 .rw[if_pos o6];split
  next h=>have e1:=afl a1.1 m1.1 h.2;exact pj e1.1 Fn Fn Fn
  .exact fi
 rw[if_neg o6];exact fi
def zJ{a b:Rg}(ha:a.wf)(hb:b.wf):(D0 op a b).wf:=by
 unfold D0;split
 next h=>exact sR (adQ ha hb h.1 h.2)
 .exact fi
def aur(op a b:Int):BD op 64 a b=BR op 64 a b (b % 64):=by unfold BD;rw[dJ,dJ,dJ]
def ah3{a b:Rg}(ha:a.wf)(hb:b.wf)(v0:0<=v)(v1:v<=18446744073709551615)(w0:0<=w)(w1:w<=18446744073709551615)(h1:AF a v=ZB)(h2:AF b w=ZB)(Hw:0<=BD op 64 v w)(Ex:BD op 64 v w<=18446744073709551615):AF (D0 op a b) (BD op 64 v w)=ZB:=by
 have m1:=cW h1;have m2:=cW h2;have x1:=(aM a v).1 h1;have x2:=(aM b w).1 h2;unfold D0;rw[if_pos ⟨m1,m2⟩];refine ahY (adQ ha hb m1 m2) Hw Ex ?_;rw[aur]at Hw Ex ⊢;have OG:v.toNat<2 ^ ax (max a.uh b.uh).toNat/\w.toNat<2 ^ ax (max a.uh b.uh).toNat:=by have:=qH (max a.uh b.uh).toNat;omega
 unfold CW;unfold BR at Hw Ex ⊢;by_cases o11:op=11
 .subst o11;simpa using h2
 rw[if_neg o11];by_cases o0:op=0
 .subst o0;simpa using aqH ha hb v0 v1 w0 w1 h1 h2
 rw[if_neg o0];by_cases o1:op=1
 .subst o1;simpa using aqI ha hb v0 v1 w0 w1 h1 h2
 rw[if_neg o1];by_cases o5:op=5
 .subst o5;have e1:v.toNat &&& w.toNat<=v.toNat:=Nat.and_le_left;have e2:v.toNat &&& w.toNat<=w.toNat:=Nat.and_le_right;simp at Hw Ex ⊢;exact kg Fn Fn
 rw[if_neg o5];by_cases o4:op=4
 .subst o4;have e1:v.toNat<=v.toNat ||| w.toNat:=Nat.left_le_or;have e2:w.toNat<=v.toNat ||| w.toNat:=Nat.right_le_or;have e3:=Nat.or_lt_two_pow OG.1 OG.2;simp at Hw Ex ⊢;exact kg Fn (acj Fn (by simpa using e3))
 rw[if_neg o4];by_cases o10:op=10
 .subst o10;have e3:=Nat.xor_lt_two_pow OG.1 OG.2;simp at Hw Ex ⊢;exact kg Fn (acj Fn (by simpa using e3))
 rw[if_neg o10];by_cases o3:op=3
 .subst o3;simp at Hw Ex ⊢;by_cases Jq:0<b.ul
  .rw[if_pos Jq,if_neg Fn];refine kg ?_ ?_
   .exact Int.le_trans (Int.ediv_le_ediv Fn x1.1) (by
     have:=ha.1;exact ab7 Fn Fn x2.2.1)
   .exact Int.le_trans (Int.ediv_le_ediv Fn x1.2.1) (ab7 (by have:=ha.2.1;omega) Jq x2.1)
  .rw[if_neg Jq];refine kg Fn ?_;split
   .exact Fn
   .have:=Int.ediv_le_self w v0;omega
 rw[if_neg o3];by_cases o9:op=9
 .subst o9;simp at Hw Ex ⊢;by_cases Jq:0<b.ul
  .rw[if_pos Jq,if_neg Fn];have e1:=Int.emod_lt_of_pos v (show 0<w by omega);have e2:=Int.emod_nonneg v (show w≠0 by omega);have e3:v % w<=v:=by
    have:=Int.emod_add_mul_ediv v w;have h4:0<=w*(v / w):=Int.mul_nonneg w0 (Int.ediv_nonneg v0 w0);omega
   exact kg e2 Fn
  .rw[if_neg Jq];split
   .exact kg v0 Fn
   .have e2:=Int.emod_nonneg v (show w≠0 by omega);have e3:v % w<=v:=by
     have:=Int.emod_add_mul_ediv v w;have h4:0<=w*(v / w):=Int.mul_nonneg w0 (Int.ediv_nonneg v0 w0);omega
    exact kg e2 Fn
 rw[if_neg o9];have Qt:em b=ZB->(w % 64).toNat=Hu b:=by intro h;have:=qF h w0 w1;rw[h2]at this;have:=Ah this.symm;unfold Hu;rw[this]
 by_cases o7:op=7
 .subst o7;simp at Hw Ex ⊢;by_cases hs:em b=ZB
  .rw[if_pos hs,Qt hs];have hp:(0:Int)<2 ^ Hu b:=Int.pow_pos Fn;exact kg (Int.ediv_le_ediv hp x1.1) (Int.ediv_le_ediv hp x1.2.1)
  .rw[if_neg hs];exact kM _ Hw Ex
 rw[if_neg o7];by_cases o6:op=6
 .subst o6;simp at Hw Ex ⊢;by_cases hs:em b=ZB/\ax a.uh.toNat+Hu b<=64
  .rw[if_pos hs,Qt hs.1];have hp:(0:Int)<2 ^ Hu b:=Int.pow_pos Fn;have e1:=afl v0 x1.2.1 hs.2;rw[Int.emod_eq_of_lt e1.1 Fn];exact kg (Int.mul_le_mul_of_nonneg_right x1.1 Fn) e1.2.1
  .rw[if_neg hs];exact kM _ Hw Ex
 rw[if_neg o6];exact kM _ Hw Ex
def ah2{a b:Rg}(h1:AF a v=ZB)(h2:AS b=ZB):AF (js a b) v=ZB:=by unfold js;rw[if_pos ⟨cW h1,h2⟩];rw[aM]at h1 ⊢;unfold mR;simp only;omega
def ah1{a b:Rg}(h1:AS a=ZB)(h2:AF b v=ZB):AF (js a b) v=ZB:=by unfold js;rw[if_pos ⟨h1,cW h2⟩];rw[aM]at h2 ⊢;unfold mR;simp only;omega
def aq8{a b:Rg}:NR a b=ZB↔(AS a=ZB/\AS b=ZB)/\b.ul<=a.ul/\a.uh<=b.uh/\b.sl<=a.sl/\a.sh<=b.sh:=by
 unfold NR;rw[ne,ne,aB];constructor
 .rintro ⟨h1,h2,h3⟩;refine⟨⟨h1,h2⟩,?_⟩;unfold js at h3;rw[if_pos ⟨h1,h2⟩]at h3;obtain⟨b1,b2,b3,b4⟩:=b;simp only[mR,Rg.mk.injEq]at h3 ⊢;omega
 .rintro ⟨⟨h1,h2⟩,h3⟩;refine⟨h1,h2,?_⟩;unfold js;rw[if_pos ⟨h1,h2⟩];obtain⟨b1,b2,b3,b4⟩:=b;simp only[mR,Rg.mk.injEq]at h3 ⊢;omega
def Rg.Sub(a b:Rg):Prop:=b.ul<=a.ul/\a.uh<=b.uh/\b.sl<=a.sl/\a.sh<=b.sh
def Rg.Sub.refl(a:Rg):a.Sub a:=⟨Int.le_refl _,Int.le_refl _,Int.le_refl _,Int.le_refl _⟩
def Rg.Sub.trans{a b c:Rg}(h:a.Sub b)(g:b.Sub c):a.Sub c:=by obtain⟨h1,h2,h3,h4⟩:=h;obtain⟨g1,g2,g3,g4⟩:=g;exact⟨by omega,by omega,by omega,by omega⟩
def aaj(r:Rg):(Bb r).Sub r:=by
 unfold Bb;split
 .unfold Rg.Sub;simp only;omega
 .exact Rg.Sub.refl r
def ajM(r:Rg):(CY r).Sub r:=by
 unfold CY;split
 .unfold Rg.Sub;simp only;omega
 .exact Rg.Sub.refl r
def ajN{r:Rg}(h:Bc r=ZB):(AG r).Sub r:=by unfold AG;rw[if_pos h];exact(aaj _).trans ((ajM _).trans (aaj _))
def at4{a b:Rg}(h1:AS a=ZB)(h2:AS b=ZB)(h:a.Sub b):NR a b=ZB:=aq8.2 ⟨⟨h1,h2⟩,h⟩
def sO{a b:Rg}(ha:a.wf)(hb:b.wf):(lr a b).wf:=by obtain⟨a1,a2,a3,a4⟩:=ha;obtain⟨b1,b2,b3,b4⟩:=hb;unfold lr;refine⟨?_,?_,?_,?_⟩<;>simp only<;>omega
def ahZ{a b:Rg}:AF (lr a b) v=(AF a v&&AF b v):=by rw[aj,ne,aM,aM,aM];unfold lr;simp only;omega
def abO{a b:Rg}(ha:a.wf)(hb:b.wf)(v0:0<=v)(v1:v<=18446744073709551615)(h:AF b v=ZB):AF a v=(fh a b&&AF (jr a b) v):=by
 have e:=ahZ (a:=a) (b:=b) (v:=v);rw[h,Bool.and_true]at e;cases hm:fh a b
 .rw[aq];cases hv:AF a v
  .rfl
  .exfalso;rw[hv]at e;have:=uD (sO ha hb) v0 v1 e;simp[fh,cW hv,cW h,this]at hm
 .rw[Bool.true_and];unfold jr;rw[if_pos hm];unfold fh at hm;simp only[ne]at hm;rw[qJ (sO ha hb) v0 v1 hm.2.2,e]
def ajL{a b:Rg}(h:fh a b=ZB):(jr a b).Sub a/\AS (jr a b)=ZB:=by have h':=h;unfold fh at h';simp only[ne]at h';unfold jr;rw[if_pos h];refine⟨(ajN h'.2.2).trans ?_,aiP h'.2.2⟩;unfold Rg.Sub lr;simp only;omega
def Dd(r:Rg):Rg:=if AS r=ZB/\r.uh<=4294967295 then r else AG (bu 0 4294967295)
def ah0{r:Rg}(v0:0<=v)(h:AF r v=ZB):AF (Dd r) (v % 4294967296)=ZB:=by
 unfold Dd;split
 next hh=>have:=(aM r v).1 h;rw[show v % 4294967296=v by omega];exact h
 .exact ahY (pj Fn Fn Fn Fn) Fn Fn (kg Fn Fn)
def zA(cc v w:Int):Bool:=
 if cc=0 then decide (v=w)else if cc=1 then !decide (v=w)else if cc=2 then decide (w<v)else if cc=3 then decide (w<=v)else if cc=4 then decide (v<w)else if cc=5 then decide (v<=w)
 else if cc=6 then decide (BZ w<BZ v)else if cc=7 then decide (BZ w<=BZ v)else if cc=8 then decide (BZ v<BZ w)else if cc=9 then decide (BZ v<=BZ w)else ZB
def Bw(cc:Int)(a b:Rg):Bool:=
 if cc=1 then(if em b=ZB then !decide (a.ul=b.ul/\a.uh=b.ul) &&!decide (a.sl=BZ b.ul/\a.sh=BZ b.ul)else ZB)
 else if cc=2 then !decide (b.ul=18446744073709551615)else if cc=4 then !decide (b.uh=0)else if cc=6 then !decide (b.sl=9223372036854775807)else if cc=8 then !decide (b.sh = -9223372036854775808)else ZB
def BW(cc:Int)(a b:Rg):Rg:=
 if cc=1 then(if em b=ZB then⟨if a.ul=b.ul then a.ul+1 else a.ul,if a.ul≠b.ul/\a.uh=b.ul then a.uh-1 else a.uh,if a.sl=BZ b.ul then a.sl+1 else a.sl,if a.sl≠BZ b.ul/\a.sh=BZ b.ul then a.sh-1 else a.sh⟩else a)
 else if cc=2 then⟨max a.ul (b.ul+1),a.uh,a.sl,a.sh⟩else if cc=3 then⟨max a.ul b.ul,a.uh,a.sl,a.sh⟩
 else if cc=4 then⟨a.ul,min a.uh (b.uh-1),a.sl,a.sh⟩else if cc=5 then⟨a.ul,min a.uh b.uh,a.sl,a.sh⟩
 else if cc=6 then⟨a.ul,a.uh,max a.sl (b.sl+1),a.sh⟩else if cc=7 then⟨a.ul,a.uh,max a.sl b.sl,a.sh⟩
 else if cc=8 then⟨a.ul,a.uh,a.sl,min a.sh (b.sh-1)⟩else if cc=9 then⟨a.ul,a.uh,a.sl,min a.sh b.sh⟩else a
def jt(cc:Int)(a b:Rg):Bool:=AS a&&(AS b&&(decide (0<=cc)&&decide (cc<=10)))
def CN(cc:Int)(a b:Rg):Bool:=jt cc a b&&(if cc=0 then fh a b else Bw cc a b&&Bc (BW cc a b))
def C7(cc:Int)(a b:Rg):Rg:=if CN cc a b=ZB then(if cc=0 then jr a b else AG (BW cc a b))else ball
def apj(v0:0<=v)(v1:v<=18446744073709551615)(w0:0<=w)(w1:w<=18446744073709551615)(h:BZ v=BZ w):v=w:=by rw[iZ v0 v1,iZ w0 w1]at h;split at h<;>split at h<;>omega
def apr{a b:Rg}(v0:0<=v)(v1:v<=18446744073709551615)(w0:0<=w)(w1:w<=18446744073709551615)(hb:b.wf)(h1:AF a v=ZB)(h2:AF b w=ZB)(hy:zA cc v w=ZB)(c0:cc≠0):Bw cc a b=ZB/\AF (BW cc a b) v=ZB:=by
 have x1:=(aM a v).1 h1;have x2:=(aM b w).1 h2;have sv:=fV v;have sw:=fV w;obtain⟨b1,b2,b3,b4⟩:=hb;rw[aM];unfold zA at hy;unfold Bw BW;rw[if_neg c0]at hy;by_cases c1:cc=1
 .rw[if_pos c1]at hy ⊢;rw[if_pos c1];by_cases hs:em b=ZB
  .rw[if_pos hs,if_pos hs];have e:=qF hs w0 w1;rw[h2]at e;have e:=Ah e.symm;have BM:v≠b.ul:=by rw[<-e];simpa using hy
   have hns:BZ v≠BZ b.ul:=fun h=>BM (apj v0 v1 Fn Fn h);generalize BZ b.ul=t at *;generalize BZ v=s at *;refine⟨?_,?_⟩
   .simp only[ne,ZP,decide_eq_false_iff_not];omega
   .simp only;refine⟨?_,?_,?_,?_⟩<;>split<;>omega
  .rw[if_neg hs,if_neg hs];exact⟨rfl,x1⟩
 rw[if_neg c1]at hy ⊢;rw[if_neg c1];generalize BZ v=s at *;generalize BZ w=t at *;by_cases c2:cc=2
 .rw[if_pos c2]at hy ⊢;rw[if_pos c2];have hy:=Ah hy;exact⟨by simp only[ZP,decide_eq_false_iff_not];omega,by simp only;omega⟩
 rw[if_neg c2]at hy ⊢;rw[if_neg c2];by_cases c3:cc=3
 .subst c3;have hy:w<=v:=YB;simp;omega
 rw[if_neg c3]at hy;rw[if_neg c3];by_cases c4:cc=4
 .rw[if_pos c4]at hy ⊢;rw[if_pos c4];have hy:=Ah hy;exact⟨by simp only[ZP,decide_eq_false_iff_not];omega,by simp only;omega⟩
 rw[if_neg c4]at hy ⊢;rw[if_neg c4];by_cases c5:cc=5
 .subst c5;have hy:v<=w:=YB;simp;omega
 rw[if_neg c5]at hy;rw[if_neg c5];by_cases c6:cc=6
 .rw[if_pos c6]at hy ⊢;rw[if_pos c6];have hy:=Ah hy;exact⟨by simp only[ZP,decide_eq_false_iff_not];omega,by simp only;omega⟩
 rw[if_neg c6]at hy ⊢;rw[if_neg c6];by_cases c7:cc=7
 .subst c7;have hy:t<=s:=YB;simp;omega
 rw[if_neg c7]at hy;rw[if_neg c7];by_cases c8:cc=8
 .rw[if_pos c8]at hy ⊢;rw[if_pos c8];have hy:=Ah hy;exact⟨by simp only[ZP,decide_eq_false_iff_not];omega,by simp only;omega⟩
 rw[if_neg c8]at hy ⊢;rw[if_neg c8];by_cases c9:cc=9
 .subst c9;have hy:s<=t:=YB;simp;omega
 rw[if_neg c9];exact⟨rfl,x1⟩
open Go.ChangeShapes Go.WideShapes
structure Pu where
 lo:Int
 hi:Int
structure Pi where
 lo:Int
 hi:Int
def Rg.eta(a:Rg):(⟨a.ul,a.uh,a.sl,a.sh⟩:Rg)=a:=rfl
def rd_Rg(k:Rg->List Dt->List Dt):List Dt->List Dt
 |.z z0::.z z1::.z z2::.z z3::r=>k ⟨z0,z1,z2,z3⟩ r
 |_=>[]
def Rg.ok(a:Rg):Prop:=Ae .u64 a.ul=ZB/\Ae .u64 a.uh=ZB/\Ae .i64 a.sl=ZB/\Ae .i64 a.sh=ZB
def kRg:List CK:=[.int .u64,.int .u64,.int .i64,.int .i64]
def v_Rg(t:List VK):List VK:=.int .u64::.int .u64::.int .i64::.int .i64::t
def d_Rg(a:Rg)(t:List Dt):List Dt:=.z a.ul::.z a.uh::.z a.sl::.z a.sh::t
def du{p:List Dt->Prop}(h:∀a:Rg,Rg.ok a->aO l fun r=>p (d_Rg a r)):aO (v_Rg l) p:=fun x0 C8 x1 Du x2 Gd x3 Gj=>h ⟨x0,x1,x2,x3⟩ ⟨C8,Du,Gd,Gj⟩
def AJ:=aI @v_Rg.eq_1 (aI @d_Rg.eq_1 (aI @rd_Rg.eq_1 (@kRg.eq_1)))
def Pu.eta(a:Pu):(⟨a.lo,a.hi⟩:Pu)=a:=rfl
def rd_Pu(k:Pu->List Dt->List Dt):List Dt->List Dt
 |.z z0::.z z1::r=>k ⟨z0,z1⟩ r
 |_=>[]
def Pu.ok(a:Pu):Prop:=Ae .u64 a.lo=ZB/\Ae .u64 a.hi=ZB
def kPu:List CK:=[.int .u64,.int .u64]
def v_Pu(t:List VK):List VK:=.int .u64::.int .u64::t
def d_Pu(a:Pu)(t:List Dt):List Dt:=.z a.lo::.z a.hi::t
def je{p:List Dt->Prop}(h:∀a:Pu,Pu.ok a->aO l fun r=>p (d_Pu a r)):aO (v_Pu l) p:=fun x0 C8 x1 Du=>h ⟨x0,x1⟩ ⟨C8,Du⟩
def BN:=aI @v_Pu.eq_1 (aI @d_Pu.eq_1 (aI @rd_Pu.eq_1 (@kPu.eq_1)))
def Pi.eta(a:Pi):(⟨a.lo,a.hi⟩:Pi)=a:=rfl
def rd_Pi(k:Pi->List Dt->List Dt):List Dt->List Dt
 |.z z0::.z z1::r=>k ⟨z0,z1⟩ r
 |_=>[]
def Pi.ok(a:Pi):Prop:=Ae .i64 a.lo=ZB/\Ae .i64 a.hi=ZB
def kPi:List CK:=[.int .i64,.int .i64]
def v_Pi(t:List VK):List VK:=.int .i64::.int .i64::t
def d_Pi(a:Pi)(t:List Dt):List Dt:=.z a.lo::.z a.hi::t
def jf{p:List Dt->Prop}(h:∀a:Pi,Pi.ok a->aO l fun r=>p (d_Pi a r)):aO (v_Pi l) p:=fun x0 C8 x1 Du=>h ⟨x0,x1⟩ ⟨C8,Du⟩
def BP:=aI @v_Pi.eq_1 (aI @d_Pi.eq_1 (aI @rd_Pi.eq_1 (@kPi.eq_1)))
def bN:=aI Pi.eta (aI Pu.eta (Rg.eta))
def dp(k:q2)(h:p->q=q2:=by intro e;(try simp only[e,bN,-eq_self]);rfl):p->q:=fun e=>(h e).symm▸k
def aox:List (Nat×TI):=[(2,CB),
 (39,eX),
 (46,gZ),
 (183,aeD),
 (185,aeC)]
def bI:∀t i,(t,i)∈aox->TIok ZF t i:=bi B1 B1 (by kernel_rfl)
def c_uns:Cd:=⟨119,[.agg kRg],[.agg kPu],rd_Rg fun a _=>d_Pu ((⟨a.ul,a.uh⟩:Pu)) [],T0⟩
def amg:Tr:=
(.u (.vs 0 2 .nil))
def Qf:c_uns.Ok ZF:=
 AT amg (v_Rg []) bI AI Tryz.func119<|du fun a ha hp U g=>by
 simp only[AJ,BN,AB,ZD]at g;simp only[amg,c_uns,AJ,BN,Ai,ZH,ZD,-eq_self,Rg.eta,g]
 .rfl
def c_sig:Cd:=⟨120,[.agg kRg],[.agg kPi],rd_Rg fun a _=>d_Pi ((⟨a.sl,a.sh⟩:Pi)) [],T0⟩
def ami:Tr:=
(.u (.vs 2 2 .nil))
def PK:c_sig.Ok ZF:=
 AT ami (v_Rg []) bI AI Tryz.func120<|du fun a ha hp U g=>by
 simp only[AJ,BP,AB,ZD]at g;simp only[ami,c_sig,AJ,BP,Ai,ZH,ZD,-eq_self,Rg.eta,g]
 .rfl
def c_umay:Cd:=⟨159,[.agg kPu],[.one .bool],rd_Pu fun a _=>[.z (AE (decide (a.lo<=a.hi)))],T0⟩
def afK:Tr:=
(.u (.j (.not (.lt (.w 1) (.w 0))) .nil))
def asY:c_umay.Ok ZF:=
 AT afK (v_Pu []) bI AI Tryz.func159<|je fun a ha hp U g=>by
 simp only[BN,AB,ZD]at g;simp only[afK,c_umay,BN,Ai,ZH,ZD,-eq_self,Pu.eta,g]
 .simp[bD]
def c_imay:Cd:=⟨160,[.agg kPi],[.one .bool],rd_Pi fun a _=>[.z (AE (decide (a.lo<=a.hi)))],T0⟩
def agi:Tr:=
(.u (.j (.not (.lt (.w 1) (.w 0))) .nil))
def ati:c_imay.Ok ZF:=
 AT agi (v_Pi []) bI AI Tryz.func160<|jf fun a ha hp U g=>by
 simp only[BP,AB,ZD]at g;simp only[agi,c_imay,BP,Ai,ZH,ZD,-eq_self,Pi.eta,g]
 .simp[bD]
def c_uhas:Cd:=⟨136,[.agg kPu,.one (.int .u64)],[.one .bool],rd_Pu fun a=>rdZ fun v _=>[.z (AE ((decide (a.lo<=v)&&decide (v<=a.hi))))],T0⟩
def afL:Tr:=
(.br (.lt (.w 2) (.w 0))
zlF
(.u (.j (.not (.lt (.w 1) (.w 2))) .nil)))
def asZ:c_uhas.Ok ZF:=
 AT afL (v_Pu [.int .u64]) bI AI Tryz.func136<|je fun a ha=>fun v hv hp U g=>by
 simp only[BN,AB,ZD]at g;simp only[afL,c_uhas,BN,Ai,ZH,ZD,-eq_self,Pu.eta,g];apply aI<;>intro c0
 .simp_all [bD]
 .simp_all [bD]
def c_ihas:Cd:=⟨137,[.agg kPi,.one (.int .i64)],[.one .bool],rd_Pi fun a=>rdZ fun v _=>[.z (AE ((decide (a.lo<=v)&&decide (v<=a.hi))))],T0⟩
def agj:Tr:=
(.br (.lt (.w 2) (.w 0))
zlF
(.u (.j (.not (.lt (.w 1) (.w 2))) .nil)))
def atj:c_ihas.Ok ZF:=
 AT agj (v_Pi [.int .i64]) bI AI Tryz.func137<|jf fun a ha=>fun v hv hp U g=>by
 simp only[BP,AB,ZD]at g;simp only[agj,c_ihas,BP,Ai,ZH,ZD,-eq_self,Pi.eta,g];apply aI<;>intro c0
 .simp_all [bD]
 .simp_all [bD]
def c_umeet:Cd:=⟨161,[.agg kPu,.agg kPu],[.agg kPu],rd_Pu fun a=>rd_Pu fun b _=>d_Pu ((⟨max a.lo b.lo,min a.hi b.hi⟩:Pu)) [],T0⟩
def aaH:Tr:=
(.u (.cons (.mx (.w 0) (.w 2)) (.cons (.mn (.w 1) (.w 3)) .nil)))
def ahD:c_umeet.Ok ZF:=
 AT aaH (v_Pu (v_Pu [])) bI AI Tryz.func161<|je fun a ha=>je fun b hb hp U g=>by
 simp only[BN,AB,ZD]at g;simp only[aaH,c_umeet,BN,Ai,ZH,ZD,-eq_self,Pu.eta,g]
 .rfl
def c_ujoin:Cd:=⟨132,[.agg kPu,.agg kPu],[.agg kPu],rd_Pu fun a=>rd_Pu fun b _=>d_Pu ((⟨min a.lo b.lo,max a.hi b.hi⟩:Pu)) [],T0⟩
def aaI:Tr:=
(.u (.cons (.mn (.w 0) (.w 2)) (.cons (.mx (.w 1) (.w 3)) .nil)))
def aqk:c_ujoin.Ok ZF:=
 AT aaI (v_Pu (v_Pu [])) bI AI Tryz.func132<|je fun a ha=>je fun b hb hp U g=>by
 simp only[BN,AB,ZD]at g;simp only[aaI,c_ujoin,BN,Ai,ZH,ZD,-eq_self,Pu.eta,g]
 .rfl
def c_imeet:Cd:=⟨162,[.agg kPi,.agg kPi],[.agg kPi],rd_Pi fun a=>rd_Pi fun b _=>d_Pi ((⟨max a.lo b.lo,min a.hi b.hi⟩:Pi)) [],T0⟩
def aaX:Tr:=
(.u (.cons (.mx (.w 0) (.w 2)) (.cons (.mn (.w 1) (.w 3)) .nil)))
def ahN:c_imeet.Ok ZF:=
 AT aaX (v_Pi (v_Pi [])) bI AI Tryz.func162<|jf fun a ha=>jf fun b hb hp U g=>by
 simp only[BP,AB,ZD]at g;simp only[aaX,c_imeet,BP,Ai,ZH,ZD,-eq_self,Pi.eta,g]
 .rfl
def c_ijoin:Cd:=⟨133,[.agg kPi,.agg kPi],[.agg kPi],rd_Pi fun a=>rd_Pi fun b _=>d_Pi ((⟨min a.lo b.lo,max a.hi b.hi⟩:Pi)) [],T0⟩
def aaY:Tr:=
(.u (.cons (.mn (.w 0) (.w 2)) (.cons (.mx (.w 1) (.w 3)) .nil)))
def aqv:c_ijoin.Ok ZF:=
 AT aaY (v_Pi (v_Pi [])) bI AI Tryz.func133<|jf fun a ha=>jf fun b hb hp U g=>by
 simp only[BP,AB,ZD]at g;simp only[aaY,c_ijoin,BP,Ai,ZH,ZD,-eq_self,Pi.eta,g]
 .rfl
def c_of:Cd:=⟨107,[.agg kPu,.agg kPi],[.agg kRg],rd_Pu fun a=>rd_Pi fun b _=>d_Rg ((⟨a.lo,a.hi,b.lo,b.hi⟩:Rg)) [],T0⟩
def arU:Tr:=
(.u (.vs 0 4 .nil))
def Jw:c_of.Ok ZF:=
 AT arU (v_Pu (v_Pi [])) bI AI Tryz.func107<|je fun a ha=>jf fun b hb hp U g=>by
 simp only[BN,BP,AJ,AB,ZD]at g;simp only[arU,c_of,BN,BP,AJ,Ai,ZH,ZD,-eq_self,Pi.eta,Pu.eta,g]
 .rfl
def c_may:Cd:=⟨117,[.agg kRg],[.one .bool],rd_Rg fun a _=>[.z (AE (AS a))],T0⟩
def amk:Tr:=
(.call 0 (kPu) (.vs 0 4 .nil) 4
(.call 2 [.bool] (.vs 4 2 .nil) 6
(.br (.s 6)
(.call 1 (kPi) (.vs 0 4 .nil) 7
(.call 3 [.bool] (.vs 7 2 .nil) 9
(.u (.j (.s 9) .nil))))
zlF)))
def wU:c_may.Ok ZF:=
 AT amk (v_Rg []) bI (Am Qf<|Am PK<|Am asY<|Am ati AI) Tryz.func117<|du fun a ha hp U g=>by
 simp only[AJ,BN,BP,AB,ZD]at g;simp only[amk,c_uns,c_sig,c_umay,c_imay,c_may,AJ,BN,BP,Ai,ZH,ZD,-eq_self,bN,g];refine dp ?_;refine dp ?_;apply aI<;>intro c0;refine dp ?_;refine dp ?_
 ·(unfold AS;simp_all;try (intros;omega))
 ·(unfold AS;simp_all;try (intros;omega))
def c_all:Cd:=⟨89,[],[.agg kRg],fun _=>d_Rg ball [],T0⟩
def amu:Tr:=
(.call 0 (kRg) (.zs [0,18446744073709551615,-9223372036854775808,9223372036854775807] .nil) 0
(.u (.vs 0 4 .nil)))
def nJ:c_all.Ok ZF:=
 AT amu [] bI (Am Jw AI) Tryz.func89<|fun hp U g=>by
 simp only[amu,c_of,c_all,AJ,BN,BP,Ai,ZH,ZD,-eq_self,bN];refine dp ?_
 .rfl
def c_one:Cd:=⟨69,[.one (.int .u64)],[.agg kRg],rdZ fun v _=>d_Rg (HG v) [],T0⟩
def amj:Tr:=
(.call 0 (kRg) (.cons (.w 0) (.cons (.w 0) (.cons (.F .i64 (.w 0)) (.cons (.F .i64 (.w 0)) .nil)))) 1
(.u (.vs 1 4 .nil)))
def au4:c_one.Ok ZF:=
 AT amj [.int .u64] bI (Am Jw AI) Tryz.func69<|fun v hv hp U g=>by
 simp only[AJ,BN,BP,AB,ZD]at g;simp only[amj,c_of,c_one,AJ,BN,BP,Ai,ZH,ZD,-eq_self,bN,g];refine dp ?_
 .simp[HG,bS]
def c_has:Cd:=⟨100,[.agg kRg,.one (.int .u64)],[.one .bool],rd_Rg fun a=>rdZ fun v _=>[.z (AE (AF a v))],T0⟩
def amt:Tr:=
(.call 0 [.bool] (.vs 0 4 .nil) 5
(.br (.s 5)
(.call 1 (kPu) (.vs 0 4 .nil) 6
(.call 3 [.bool] (.vs 6 2 (.cons (.w 4) .nil)) 8
(.br (.s 8)
(.call 2 (kPi) (.vs 0 4 .nil) 9
(.call 4 [.bool] (.vs 9 2 (.cons (.F .i64 (.w 4)) .nil)) 11
(.u (.j (.s 11) .nil))))
zlF)))
zlF))
def atk:c_has.Ok ZF:=
 AT amt (v_Rg [.int .u64]) bI (Am wU<|Am Qf<|Am PK<|Am asZ<|Am atj AI) Tryz.func100<|du fun a ha=>fun v hv hp U g=>by
 simp only[AJ,BN,BP,AB,ZD]at g;simp only[amt,c_may,c_uns,c_sig,c_uhas,c_ihas,c_has,AJ,BN,BP,Ai,ZH,ZD,-eq_self,bN,g];refine dp ?_
 .repeat' first|apply aI<;>intro c|refine dp ?_|exact X8
def c_single:Cd:=⟨122,[.agg kRg],[.one (.int .u64),.one .bool],rd_Rg fun a _=>[.z (aC a),.z (AE (em a))],T0⟩
def vX:Tr:=
(.br (.eq (.w 0) (.w 1))
(.call 0 [.bool] (.vs 0 4 (.cons (.w 0) .nil)) 4
(.br (.s 4)
(.u (.cons (.w 0) (.j (.tt ZB) .nil)))
(.u (.cons (.p 0) (.j (.tt ZC) .nil)))))
(.u (.cons (.p 0) (.j (.tt ZC) .nil))))
def uo:c_single.Ok ZF:=
 AT vX (v_Rg []) bI (Am atk AI) Tryz.func122<|du fun a ha hp U g=>by
 simp only[AJ,AB,ZD]at g;simp only[vX,c_has,c_single,AJ,Ai,ZH,ZD,-eq_self,bN,g];apply aI<;>intro c0;refine dp ?_;apply aI<;>intro c1
 ·(unfold aC em;simp_all)
 ·(unfold aC em;simp_all)
 ·(unfold aC em;simp_all)
def c_join:Cd:=⟨86,[.agg kRg,.agg kRg],[.agg kRg],rd_Rg fun a=>rd_Rg fun b _=>d_Rg (js a b) [],T0⟩
def agd:Tr:=
(.call 0 [.bool] (.vs 0 4 .nil) 8
(.br (.s 8)
(.call 0 [.bool] (.vs 4 4 .nil) 9
(.br (.s 9)
(.call 2 (kPu) (.vs 0 4 .nil) 10
(.call 2 (kPu) (.vs 4 4 .nil) 12
(.call 4 (kPu) (.vs 10 4 .nil) 14
(.call 3 (kPi) (.vs 0 4 .nil) 16
(.call 3 (kPi) (.vs 4 4 .nil) 18
(.call 5 (kPi) (.vs 16 4 .nil) 20
(.call 6 (kRg) (.vs 14 2 (.vs 20 2 .nil)) 22
(.u (.vs 22 4 .nil)))))))))
(.call 1 (kRg) .nil 10
(.u (.vs 10 4 .nil)))))
(.call 1 (kRg) .nil 9
(.u (.vs 9 4 .nil)))))
def ate:c_join.Ok ZF:=
 AT agd (v_Rg (v_Rg [])) bI (Am wU<|Am nJ<|Am Qf<|Am PK<|Am aqk<|Am aqv<|Am Jw AI) Tryz.func86<|du fun a ha=>du fun b hb hp U g=>by
 simp only[AJ,BN,BP,AB,ZD]at g;simp only[agd,c_may,c_all,c_uns,c_sig,c_ujoin,c_ijoin,c_of,c_join,AJ,BN,BP,Ai,ZH,ZD,-eq_self,bN,g];refine dp ?_;apply aI<;>intro c0;refine dp ?_;apply aI<;>intro c1;refine dp ?_;refine dp ?_;refine dp ?_;refine dp ?_;refine dp ?_;refine dp ?_;refine dp ?_
 ·(unfold js;simp_all [mR])
 refine dp ?_
 ·(unfold js;simp_all [mR])
 refine dp ?_
 ·(unfold js;simp_all [mR])
def zy(r:Rg):(if Bc r=ZB then AG r else ball)=AG r:=by unfold AG;split<;>simp_all
def Rg.ext_iff{a b:Rg}:a=b↔a.ul=b.ul/\a.uh=b.uh/\a.sl=b.sl/\a.sh=b.sh:=by cases a;cases b;simp
def cU(h:Ae .u64 x=ZB):0<=x/\x<=18446744073709551615:=by rw[bA]at h;simpa[IntKind.min,IntKind.max,YV,ZX]using h
def iP(h:Ae .i64 x=ZB) : -9223372036854775808<=x/\x<=9223372036854775807:=by rw[bA]at h;simpa[IntKind.min,IntKind.max,YV,ZX]using h
def Rg.wf_of{a:Rg}(h:a.ok):a.wf:=⟨cU h.1,cU h.2.1,iP h.2.2.1,iP h.2.2.2⟩
def arO(h:0<=x/\x<=18446744073709551615):Ac .shr .u64 x 63=if KN x=ZB then 1 else 0:=by
 show x.fdiv (2 ^ 63)=_;rw[Int.fdiv_eq_ediv_of_nonneg _ Fn];unfold KN;split
 next hh=>have:=Ah hh;omega
 next hh=>have:¬9223372036854775808<=x:=fun e=>hh (dg e);omega
def atq{r:Rg}(w:r.wf):(Ac .shr .u64 r.ul 63==Ac .shr .u64 r.uh 63)=decide (KN r.ul=KN r.uh):=by rw[arO w.1,arO w.2.1];cases KN r.ul<;>cases KN r.uh<;>rfl
def kT{r:Rg}(w:r.wf)(h:(Ac .shr .u64 r.ul 63==Ac .shr .u64 r.uh 63)=ZB):Bb r=⟨r.ul,r.uh,max r.sl (ZG .i64 r.ul),min r.sh (ZG .i64 r.uh)⟩:=by rw[atq w,aB]at h;unfold Bb;rw[if_pos h,bS,bS]
def py{r:Rg}(w:r.wf)(h:(Ac .shr .u64 r.ul 63==Ac .shr .u64 r.uh 63)=ZC):Bb r=⟨r.ul,r.uh,r.sl,r.sh⟩:=by rw[atq w,decide_eq_false_iff_not]at h;unfold Bb;rw[if_neg h]
def uQ{r:Rg}(h:(decide (r.sl<0)==decide (r.sh<0))=ZB):CY r=⟨max r.ul (ZG .u64 r.sl),min r.uh (ZG .u64 r.sh),r.sl,r.sh⟩:=by unfold CY;rw[if_pos (eq_of_beq h)]
def P2{r:Rg}(h:(decide (r.sl<0)==decide (r.sh<0))=ZC):CY r=⟨r.ul,r.uh,r.sl,r.sh⟩:=by unfold CY;rw[if_neg (fun e=>by rw[e]at h;simp at h)]
def Lb:List C:=[.int .u64 (.p 0),.int .u64 (.p 0),.int .i64 (.p 0),.int .i64 (.p 0)]
def atA:Tryz.prog.eqGuardType Tryz.prog.depth 46=ZC:=by kernel_rfl
def adq:Tryz.prog.cellsOf 46=4:=by kernel_rfl
def adv:Tryz.prog.cellsOf 39=1:=by kernel_rfl
def aiF:Tryz.prog.cellsOf 2=1:=by kernel_rfl
def auS(vs:List Value)(hv:aH vs Lb):Tryz.prog.keyLits 6 46 vs=ZA (cP vs):=by obtain⟨x0,_,rfl,g0,hv⟩:=ae hv;obtain⟨x1,_,rfl,g1,hv⟩:=ae hv;obtain⟨x2,_,rfl,g2,hv⟩:=ae hv;obtain⟨x3,_,rfl,g3,hv⟩:=ae hv;obtain rfl:=bM hv;simp[Program.keyLits,Tryz.underlying46,Tryz.underlying39,Tryz.underlying2,adq,adv,aiF,UZ,cP,g0,g1,g2,g3]
def avI(vs:List Value)(hv:aH vs Lb):(Value.agg vs.toArray).formed ZF 46=ZB:=by obtain⟨x0,_,rfl,g0,hv⟩:=ae hv;obtain⟨x1,_,rfl,g1,hv⟩:=ae hv;obtain⟨x2,_,rfl,g2,hv⟩:=ae hv;obtain⟨x3,_,rfl,g3,hv⟩:=ae hv;obtain rfl:=bM hv;kernel_rfl
def avM(vs us:List Value)(hv:aH vs Lb)(hu:aH us Lb)(w:World):(Op.equal 46 (.agg vs.toArray) (.agg us.toArray)).run ZF w=.ok (Df vs us) w:=iC (by kernel_rfl) avI 6 auS vs us hv hu w
def ai(k:q2)(h:p->q=q2:=by intro e;(try simp only[e,bN,-eq_self]);rfl):p->q:=fun e=>(h e).symm▸k
def aeg:List (Nat×TI):=[(2,CB),
 (3,CU),
 (4,EH),
 (39,eX),
 (46,⟨ZB,4,(zN 4 2211),[(0,39),(1,39),(2,2),(3,2)],ZE,ZE,ZB,ZC,ZE,32,ZC,ZE,ZC,0⟩),
 (183,aeD),
 (185,aeC)]
def ir:∀t i,(t,i)∈aeg->TIok ZF t i:=bi (DX (z:=Lb) ⟨avM,atA⟩ B1) B1 (by kernel_rfl)
def c_nar:Cd:=⟨129,[.agg kRg],[.agg kRg,.one .bool],rd_Rg fun a _=>d_Rg (AG a) [.z (AE (Bc a))],T0⟩
def Pg:Tr:=(.call 0 [.bool] (.vs 29 4 .nil) 33
(.br (.s 33)
(.call 2 (kPu) (.vs 29 4 .nil) 34
(.call 3 (kPi) (.vs 29 4 .nil) 36
(.u (.vs 29 4 (.j (.tt ZB) .nil)))))
(.call 1 (kRg) .nil 34
(.u (.vs 34 4 (.j (.tt ZC) .nil))))))
def Nk:Tr:=(.call 0 [.bool] (.vs 31 4 .nil) 35
(.br (.s 35)
(.call 2 (kPu) (.vs 31 4 .nil) 36
(.call 3 (kPi) (.vs 31 4 .nil) 38
(.u (.vs 31 4 (.j (.tt ZB) .nil)))))
(.call 1 (kRg) .nil 36
(.u (.vs 36 4 (.j (.tt ZC) .nil))))))
def Ow:Tr:=(.call 0 [.bool] (.vs 20 4 .nil) 24
(.br (.s 24)
(.call 2 (kPu) (.vs 20 4 .nil) 25
(.call 3 (kPi) (.vs 20 4 .nil) 27
(.br (.eq (.f .shr .u64 (.w 25) (.p 63)) (.f .shr .u64 (.w 26) (.p 63)))
(.call 5 (kPi) (.vs 27 2 (.cons (.F .i64 (.w 25)) (.cons (.F .i64 (.w 26)) .nil))) 29
(.call 6 (kRg) (.vs 25 2 (.vs 29 2 .nil)) 31
Nk))
(.call 6 (kRg) (.vs 25 4 .nil) 29
Pg))))
(.call 1 (kRg) .nil 25
(.u (.vs 25 4 (.j (.tt ZC) .nil))))))
def afX:Tr:=
(.call 0 [.bool] (.vs 0 4 .nil) 4
(.br (.s 4)
(.call 2 (kPu) (.vs 0 4 .nil) 5
(.call 3 (kPi) (.vs 0 4 .nil) 7
(.br (.eq (.f .shr .u64 (.w 5) (.p 63)) (.f .shr .u64 (.w 6) (.p 63)))
(.call 5 (kPi) (.vs 7 2 (.cons (.F .i64 (.w 5)) (.cons (.F .i64 (.w 6)) .nil))) 9
(.call 6 (kRg) (.vs 5 2 (.vs 9 2 .nil)) 11
(.call 0 [.bool] (.vs 11 4 .nil) 15
(.br (.s 15)
(.call 2 (kPu) (.vs 11 4 .nil) 16
(.call 3 (kPi) (.vs 11 4 .nil) 18
(.br (.beq (.lt (.w 18) (.p 0)) (.lt (.w 19) (.p 0)))
(.call 4 (kPu) (.vs 16 2 (.cons (.F .u64 (.w 18)) (.cons (.F .u64 (.w 19)) .nil))) 20
(.call 6 (kRg) (.vs 20 2 (.vs 18 2 .nil)) 22
(.call 0 [.bool] (.vs 22 4 .nil) 26
(.br (.s 26)
(.call 2 (kPu) (.vs 22 4 .nil) 27
(.call 3 (kPi) (.vs 22 4 .nil) 29
(.br (.eq (.f .shr .u64 (.w 27) (.p 63)) (.f .shr .u64 (.w 28) (.p 63)))
(.call 5 (kPi) (.vs 29 2 (.cons (.F .i64 (.w 27)) (.cons (.F .i64 (.w 28)) .nil))) 31
(.call 6 (kRg) (.vs 27 2 (.vs 31 2 .nil)) 33
(.call 0 [.bool] (.vs 33 4 .nil) 37
(.br (.s 37)
(.call 2 (kPu) (.vs 33 4 .nil) 38
(.call 3 (kPi) (.vs 33 4 .nil) 40
(.u (.vs 33 4 (.j (.tt ZB) .nil)))))
(.call 1 (kRg) .nil 38
(.u (.vs 38 4 (.j (.tt ZC) .nil))))))))
(.call 6 (kRg) (.vs 27 4 .nil) 31
Nk))))
(.call 1 (kRg) .nil 27
(.u (.vs 27 4 (.j (.tt ZC) .nil))))))))
(.call 6 (kRg) (.vs 16 4 .nil) 20
Ow))))
(.call 1 (kRg) .nil 16
(.u (.vs 16 4 (.j (.tt ZC) .nil))))))))
(.call 6 (kRg) (.vs 5 4 .nil) 9
(.call 0 [.bool] (.vs 9 4 .nil) 13
(.br (.s 13)
(.call 2 (kPu) (.vs 9 4 .nil) 14
(.call 3 (kPi) (.vs 9 4 .nil) 16
(.br (.beq (.lt (.w 16) (.p 0)) (.lt (.w 17) (.p 0)))
(.call 4 (kPu) (.vs 14 2 (.cons (.F .u64 (.w 16)) (.cons (.F .u64 (.w 17)) .nil))) 18
(.call 6 (kRg) (.vs 18 2 (.vs 16 2 .nil)) 20
Ow))
(.call 6 (kRg) (.vs 14 4 .nil) 18
(.call 0 [.bool] (.vs 18 4 .nil) 22
(.br (.s 22)
(.call 2 (kPu) (.vs 18 4 .nil) 23
(.call 3 (kPi) (.vs 18 4 .nil) 25
(.br (.eq (.f .shr .u64 (.w 23) (.p 63)) (.f .shr .u64 (.w 24) (.p 63)))
(.call 5 (kPi) (.vs 25 2 (.cons (.F .i64 (.w 23)) (.cons (.F .i64 (.w 24)) .nil))) 27
(.call 6 (kRg) (.vs 23 2 (.vs 27 2 .nil)) 29
Pg))
(.call 6 (kRg) (.vs 23 4 .nil) 27
(.call 0 [.bool] (.vs 27 4 .nil) 31
(.br (.s 31)
(.call 2 (kPu) (.vs 27 4 .nil) 32
(.call 3 (kPi) (.vs 27 4 .nil) 34
(.u (.vs 27 4 (.j (.tt ZB) .nil)))))
(.call 1 (kRg) .nil 32
(.u (.vs 32 4 (.j (.tt ZC) .nil))))))))))
(.call 1 (kRg) .nil 23
(.u (.vs 23 4 (.j (.tt ZC) .nil))))))))))
(.call 1 (kRg) .nil 14
(.u (.vs 14 4 (.j (.tt ZC) .nil))))))))))
(.call 1 (kRg) .nil 5
(.u (.vs 5 4 (.j (.tt ZC) .nil))))))
def arY:cb aeg (FJ 0 [c_may,c_all,c_uns,c_sig,c_umeet,c_imeet,c_of]) [] [] [] 200 Tryz.f129 c_nar.a c_nar.r (tp c_nar.r) (v_Rg []) afX:=E0 (by kernel_rfl)
def aqs:c_nar.Ok ZF:=
 GE afX (v_Rg []) ir (Am wU<|Am nJ<|Am Qf<|Am PK<|Am ahD<|Am ahN<|Am Jw AI) Tryz.func129 E2 arY<|du fun a ha hp U g=>by
 simp only[AJ,BN,BP,AB,ZD]at g;simp only[afX,Ow,Nk,Pg,c_may,c_all,c_uns,c_sig,c_umeet,c_imeet,c_of,c_nar,AJ,BN,BP,Ai,ZH,ZD,-eq_self,bN,g];have ED:=Rg.wf_of ha;refine ai ?_;apply aI<;>intro c0;refine ai ?_;refine ai ?_;apply aI<;>intro c1;refine ai ?_;refine ai ?_;refine ai ?_;apply aI<;>intro c2;refine ai ?_;refine ai ?_;apply aI<;>intro c3;refine ai ?_;refine ai ?_;refine ai ?_;apply aI<;>intro c4;refine ai ?_;refine ai ?_;apply aI<;>intro c5;refine ai ?_;refine ai ?_;refine ai ?_;apply aI<;>intro c6;refine ai ?_;refine ai ?_
 ·(have s1:=kT (ED) (by exact c1);have s2:=uQ (r:=Bb a) Yk;have s3:=kT (dM (df ED)) (by rw[s2,s1];exact c5);have Al:Bc a=ZB:=(by unfold Bc;(try rw[s3,s2,s1]);(try rw[c0]);(try rw[c2]);(try rw[c4]);(try rw[c6]);(try rfl));have BX:AG a=Bb (CY (Bb a)):=Xy;rw[Al,BX];rw[s3,s2,s1];(try rfl))
 refine ai ?_
 ·(have s1:=kT (ED) (by exact c1);have s2:=uQ (r:=Bb a) Yk;have s3:=kT (dM (df ED)) (by rw[s2,s1];exact c5);have Al:Bc a=ZC:=(by unfold Bc;(try rw[s3,s2,s1]);(try rw[c0]);(try rw[c2]);(try rw[c4]);(try rw[c6]);(try rfl));have BX:AG a=ball:=Xy;rw[Al,BX];(try rfl))
 refine ai ?_;refine ai ?_;apply aI<;>intro c7;refine ai ?_;refine ai ?_
 ·(have s1:=kT (ED) (by exact c1);have s2:=uQ (r:=Bb a) Yk;have s3:=py (dM (df ED)) (by rw[s2,s1];exact c5);have Al:Bc a=ZB:=(by unfold Bc;(try rw[s3,s2,s1]);(try rw[c0]);(try rw[c2]);(try rw[c4]);(try rw[c7]);(try rfl));have BX:AG a=Bb (CY (Bb a)):=Xy;rw[Al,BX];rw[s3,s2,s1];(try rfl))
 refine ai ?_
 .exact absurd (c4.symm.trans c7) (by simp)
 refine ai ?_
 ·(have s1:=kT (ED) (by exact c1);have s2:=uQ (r:=Bb a) Yk;have Al:Bc a=ZC:=(by unfold Bc;(try rw[s2,s1]);(try rw[c0]);(try rw[c2]);(try rw[c4]);(try rfl));have BX:AG a=ball:=Xy;rw[Al,BX];(try rfl))
 refine ai ?_;refine ai ?_;apply aI<;>intro c8;refine ai ?_;refine ai ?_;apply aI<;>intro c9;refine ai ?_;refine ai ?_;refine ai ?_;apply aI<;>intro BF;refine ai ?_;refine ai ?_
 ·(have s1:=kT (ED) (by exact c1);have s2:=P2 (r:=Bb a) Yk;have s3:=kT (dM (df ED)) (by rw[s2,s1];exact c9);have Al:Bc a=ZB:=(by unfold Bc;(try rw[s3,s2,s1]);(try rw[c0]);(try rw[c2]);(try rw[c8]);(try rw[BF]);(try rfl));have BX:AG a=Bb (CY (Bb a)):=Xy;rw[Al,BX];rw[s3,s2,s1];(try rfl))
 refine ai ?_
 ·(have s1:=kT (ED) (by exact c1);have s2:=P2 (r:=Bb a) Yk;have s3:=kT (dM (df ED)) (by rw[s2,s1];exact c9);have Al:Bc a=ZC:=(by unfold Bc;(try rw[s3,s2,s1]);(try rw[c0]);(try rw[c2]);(try rw[c8]);(try rw[BF]);(try rfl));have BX:AG a=ball:=Xy;rw[Al,BX];(try rfl))
 refine ai ?_;refine ai ?_;apply aI<;>intro CG;refine ai ?_;refine ai ?_
 ·(have s1:=kT (ED) (by exact c1);have s2:=P2 (r:=Bb a) Yk;have s3:=py (dM (df ED)) (by rw[s2,s1];exact c9);have Al:Bc a=ZB:=(by unfold Bc;(try rw[s3,s2,s1]);(try rw[c0]);(try rw[c2]);(try rw[c8]);(try rw[CG]);(try rfl));have BX:AG a=Bb (CY (Bb a)):=Xy;rw[Al,BX];rw[s3,s2,s1];(try rfl))
 refine ai ?_
 .exact absurd (c8.symm.trans CG) (by simp)
 refine ai ?_
 .exact absurd (c2.symm.trans c8) (by simp)
 refine ai ?_
 ·(have s1:=kT (ED) (by exact c1);have Al:Bc a=ZC:=(by unfold Bc;(try rw[s1]);(try rw[c0]);(try rw[c2]);(try rfl));have BX:AG a=ball:=Xy;rw[Al,BX];(try rfl))
 refine ai ?_;refine ai ?_;apply aI<;>intro Ca;refine ai ?_;refine ai ?_;apply aI<;>intro Cp;refine ai ?_;refine ai ?_;refine ai ?_;apply aI<;>intro CD;refine ai ?_;refine ai ?_;apply aI<;>intro C3;refine ai ?_;refine ai ?_;refine ai ?_;apply aI<;>intro Dk;refine ai ?_;refine ai ?_
 ·(have s1:=py (ED) (by exact c1);have s2:=uQ (r:=Bb a) Yl;have s3:=kT (dM (df ED)) (by rw[s2,s1];exact C3);have Al:Bc a=ZB:=(by unfold Bc;(try rw[s3,s2,s1]);(try rw[c0]);(try rw[Ca]);(try rw[CD]);(try rw[Dk]);(try rfl));have BX:AG a=Bb (CY (Bb a)):=Xy;rw[Al,BX];rw[s3,s2,s1];(try rfl))
 refine ai ?_
 ·(have s1:=py (ED) (by exact c1);have s2:=uQ (r:=Bb a) Yl;have s3:=kT (dM (df ED)) (by rw[s2,s1];exact C3);have Al:Bc a=ZC:=(by unfold Bc;(try rw[s3,s2,s1]);(try rw[c0]);(try rw[Ca]);(try rw[CD]);(try rw[Dk]);(try rfl));have BX:AG a=ball:=Xy;rw[Al,BX];(try rfl))
 refine ai ?_;refine ai ?_;apply aI<;>intro Dg;refine ai ?_;refine ai ?_
 ·(have s1:=py (ED) (by exact c1);have s2:=uQ (r:=Bb a) Yl;have s3:=py (dM (df ED)) (by rw[s2,s1];exact C3);have Al:Bc a=ZB:=(by unfold Bc;(try rw[s3,s2,s1]);(try rw[c0]);(try rw[Ca]);(try rw[CD]);(try rw[Dg]);(try rfl));have BX:AG a=Bb (CY (Bb a)):=Xy;rw[Al,BX];rw[s3,s2,s1];(try rfl))
 refine ai ?_
 .exact absurd (CD.symm.trans Dg) (by simp)
 refine ai ?_
 ·(have s1:=py (ED) (by exact c1);have s2:=uQ (r:=Bb a) Yl;have Al:Bc a=ZC:=(by unfold Bc;(try rw[s2,s1]);(try rw[c0]);(try rw[Ca]);(try rw[CD]);(try rfl));have BX:AG a=ball:=Xy;rw[Al,BX];(try rfl))
 refine ai ?_;refine ai ?_;apply aI<;>intro Dh;refine ai ?_;refine ai ?_;apply aI<;>intro DB;refine ai ?_;refine ai ?_;refine ai ?_;apply aI<;>intro Dz;refine ai ?_;refine ai ?_
 ·(have s1:=py (ED) (by exact c1);have s2:=P2 (r:=Bb a) Yl;have s3:=kT (dM (df ED)) (by rw[s2,s1];exact DB);have Al:Bc a=ZB:=(by unfold Bc;(try rw[s3,s2,s1]);(try rw[c0]);(try rw[Ca]);(try rw[Dh]);(try rw[Dz]);(try rfl));have BX:AG a=Bb (CY (Bb a)):=Xy;rw[Al,BX];rw[s3,s2,s1];(try rfl))
 refine ai ?_
 ·(have s1:=py (ED) (by exact c1);have s2:=P2 (r:=Bb a) Yl;have s3:=kT (dM (df ED)) (by rw[s2,s1];exact DB);have Al:Bc a=ZC:=(by unfold Bc;(try rw[s3,s2,s1]);(try rw[c0]);(try rw[Ca]);(try rw[Dh]);(try rw[Dz]);(try rfl));have BX:AG a=ball:=Xy;rw[Al,BX];(try rfl))
 refine ai ?_;refine ai ?_;apply aI<;>intro EM;refine ai ?_;refine ai ?_
 ·(have s1:=py (ED) (by exact c1);have s2:=P2 (r:=Bb a) Yl;have s3:=py (dM (df ED)) (by rw[s2,s1];exact DB);have Al:Bc a=ZB:=(by unfold Bc;(try rw[s3,s2,s1]);(try rw[c0]);(try rw[Ca]);(try rw[Dh]);(try rw[EM]);(try rfl));have BX:AG a=Bb (CY (Bb a)):=Xy;rw[Al,BX];rw[s3,s2,s1];(try rfl))
 refine ai ?_
 .exact absurd (Dh.symm.trans EM) (by simp)
 refine ai ?_
 .exact absurd (Ca.symm.trans Dh) (by simp)
 refine ai ?_
 .exact absurd (c0.symm.trans Ca) (by simp)
 refine ai ?_
 ·(have Al:Bc a=ZC:=(by unfold Bc;(try rw[Al]);(try rw[c0]);(try rfl));have BX:AG a=ball:=Xy;rw[Al,BX];(try rfl))
def c_plus:Cd:=⟨177,[.one (.int .i64),.one (.int .i64)],[.one (.int .i64),.one .bool],rdZ fun a=>rdZ fun b _=>[.z (ZG .i64 (a+b)),.z (AE (decide (-9223372036854775808<=a+b/\a+b<=9223372036854775807)))],T0⟩
def afU:Tr:=
(.u (.cons (.f .add .i64 (.w 0) (.w 1)) (.j (.not (.lt (.f .and .i64 (.f .xor .i64 (.w 0) (.f .add .i64 (.w 0) (.w 1))) (.f .xor .i64 (.w 1) (.f .add .i64 (.w 0) (.w 1)))) (.p 0))) .nil)))
def as4:c_plus.Ok ZF:=
 AT afU [.int .i64,.int .i64] ir AI Tryz.func177<|fun a ha b hb hp U g=>by
 simp only[AB,ZD]at g;simp only[afU,c_plus,Ai,ZH,ZD,-eq_self,g]
 ·(have ga:=iP ha;have gb:=iP hb;simp only[Ac,<-bD,<-agR ga.1 ga.2 gb.1 gb.2,Go.IntWalk.i64_left])
def c_minus:Cd:=⟨178,[.one (.int .i64),.one (.int .i64)],[.one (.int .i64),.one .bool],rdZ fun a=>rdZ fun b _=>[.z (ZG .i64 (a-b)),.z (AE (decide (-9223372036854775808<=a-b/\a-b<=9223372036854775807)))],T0⟩
def aaP:Tr:=
(.u (.cons (.f .sub .i64 (.w 0) (.w 1)) (.j (.not (.lt (.f .and .i64 (.f .xor .i64 (.w 0) (.w 1)) (.f .xor .i64 (.w 0) (.f .sub .i64 (.w 0) (.w 1)))) (.p 0))) .nil)))
def aqt:c_minus.Ok ZF:=
 AT aaP [.int .i64,.int .i64] ir AI Tryz.func178<|fun a ha b hb hp U g=>by
 simp only[AB,ZD]at g;simp only[aaP,c_minus,Ai,ZH,ZD,-eq_self,g]
 ·(have ga:=iP ha;have gb:=iP hb;simp only[Ac,<-bD,<-ac0 ga.1 ga.2 gb.1 gb.2,Go.IntWalk.i64_left])
def c_nard:Cd:=⟨146,[.agg kRg],[.agg kRg],rd_Rg fun a _=>d_Rg (AG a) [],T0⟩
def afW:Tr:=
(.call 0 (kRg++[.bool]) (.vs 0 4 .nil) 4
(.u (.vs 4 4 .nil)))
def amN:c_nard.Ok ZF:=
 AT afW (v_Rg []) ir (Am aqs AI) Tryz.func146<|du fun a ha hp U g=>by
 simp only[AJ,AB,ZD]at g;simp only[afW,c_nar,c_nard,AJ,Ai,ZH,ZD,-eq_self,bN,g];refine ai ?_
 .rfl
def c_meet:Cd:=⟨121,[.agg kRg,.agg kRg],[.agg kRg,.one .bool],rd_Rg fun a=>rd_Rg fun b _=>d_Rg (jr a b) [.z (AE (fh a b))],T0⟩
def afY:Tr:=
(.call 0 [.bool] (.vs 0 4 .nil) 8
(.br (.s 8)
(.call 0 [.bool] (.vs 4 4 .nil) 9
(.br (.s 9)
(.call 2 (kPu) (.vs 0 4 .nil) 10
(.call 2 (kPu) (.vs 4 4 .nil) 12
(.call 4 (kPu) (.vs 10 4 .nil) 14
(.call 3 (kPi) (.vs 0 4 .nil) 16
(.call 3 (kPi) (.vs 4 4 .nil) 18
(.call 5 (kPi) (.vs 16 4 .nil) 20
(.call 6 (kRg) (.vs 14 2 (.vs 20 2 .nil)) 22
(.call 7 (kRg++[.bool]) (.vs 22 4 .nil) 26
(.u (.vs 26 4 (.j (.s 30) .nil)))))))))))
(.call 1 (kRg) .nil 10
(.u (.vs 10 4 (.j (.tt ZC) .nil))))))
(.call 1 (kRg) .nil 9
(.u (.vs 9 4 (.j (.tt ZC) .nil))))))
def amO:c_meet.Ok ZF:=
 AT afY (v_Rg (v_Rg [])) ir (Am wU<|Am nJ<|Am Qf<|Am PK<|Am ahD<|Am ahN<|Am Jw<|Am aqs AI) Tryz.func121<|du fun a ha=>du fun b hb hp U g=>by
 simp only[AJ,BN,BP,AB,ZD]at g;simp only[afY,c_may,c_all,c_uns,c_sig,c_umeet,c_imeet,c_of,c_nar,c_meet,AJ,BN,BP,Ai,ZH,ZD,-eq_self,bN,g];refine ai ?_
 .repeat' first|apply aI<;>intro c|refine ai ?_|exact Yw
def c_low:Cd:=⟨155,[.agg kRg],[.agg kRg],rd_Rg fun a _=>d_Rg (Dd a) [],T0⟩
def OO:Tr:=(.call 1 (kRg) .nil 5
(.call 2 (kRg) (.cons (.w 5) (.cons (.p 4294967295) (.vs 7 2 .nil))) 9
(.u (.vs 9 4 .nil))))
def aml:Tr:=
(.call 0 [.bool] (.vs 0 4 .nil) 4
(.br (.s 4)
(.br (.lt (.p 4294967295) (.w 1))
OO
(.u (.vs 0 4 .nil)))
OO))
def as5:c_low.Ok ZF:=
 AT aml (v_Rg []) ir (Am wU<|Am nJ<|Am amN AI) Tryz.func155<|du fun a ha hp U g=>by
 simp only[AJ,AB,ZD]at g;simp only[aml,OO,c_may,c_all,c_nard,c_low,AJ,Ai,ZH,ZD,-eq_self,bN,g];refine ai ?_;apply aI<;>intro c0;apply aI<;>intro c1;refine ai ?_;refine ai ?_
 ·(rw[show Dd a=AG (bu 0 4294967295)from if_neg (fun q=>absurd (Ah c1) (bW.2 q.2))];try rfl)
 ·(rw[show Dd a=a from if_pos ⟨c0,bW.1 (Ab c1)⟩];try rfl)
 refine ai ?_;refine ai ?_
 ·(rw[show Dd a=AG (bu 0 4294967295)from if_neg (fun q=>by rw[c0]at q;exact absurd q.1 (by simp))];try rfl)
set_option linter.unusedSectionVars false
open Go
def EV{x0 x1 x2 x3 y0 y1 y2 y3:Int}(h0:x0=y0)(h1:x1=y1)(h2:x2=y2)(h3:x3=y3):[Dt.z x0,.z x1,.z x2,.z x3]=[Dt.z y0,.z y1,.z y2,.z y3]:=by rw[h0,h1,h2,h3]
def eB{r s:Rg}(h:r=s):[Dt.z r.ul,.z r.uh,.z r.sl,.z r.sh]=[Dt.z s.ul,.z s.uh,.z s.sl,.z s.sh]:=by rw[h]
def BY(t:Bool)(a b:Rg):Rg:=
 match t with
 |false=>⟨if a.uh+b.uh<=18446744073709551615 then IntKind.u64.wrap (a.ul+b.ul)else 0,if a.uh+b.uh<=18446744073709551615 then a.uh+b.uh else 18446744073709551615,(E8 a b).sl,(E8 a b).sh⟩
 |true=>⟨if b.uh<=a.ul then IntKind.u64.wrap (a.ul-b.uh)else 0,if b.uh<=a.ul then IntKind.u64.wrap (a.uh-b.ul)else 18446744073709551615,(FE a b).sl,(FE a b).sh⟩
section
variable {a b:Rg}(ha:a.ok)(hb:b.ok)
def TD(h1:decide (-9223372036854775808<=a.sl+b.sl/\a.sl+b.sl<=9223372036854775807)=ZB)(h2:decide (-9223372036854775808<=a.sh+b.sh/\a.sh+b.sh<=9223372036854775807)=ZB):
  IntKind.i64.wrap (a.sl+b.sl)=(BY ZC a b).sl/\IntKind.i64.wrap (a.sh+b.sh)=(BY ZC a b).sh:=by
 have h1:=Ah h1;have h2:=Ah h2;simp only[BY,E8];rw[if_pos ⟨h1,h2⟩,if_pos ⟨h1,h2⟩,aP,aP];omega
def nV(h:decide (-9223372036854775808<=a.sl+b.sl/\a.sl+b.sl<=9223372036854775807)=ZC\/decide (-9223372036854775808<=a.sh+b.sh/\a.sh+b.sh<=9223372036854775807)=ZC):
  ball.sl=(BY ZC a b).sl/\ball.sh=(BY ZC a b).sh:=by
 have hn:¬((-9223372036854775808<=a.sl+b.sl/\a.sl+b.sl<=9223372036854775807)/\(-9223372036854775808<=a.sh+b.sh/\a.sh+b.sh<=9223372036854775807)):=fun q=>by
  rcases h with h|h
  .exact Ab h q.1
  .exact Ab h q.2
 simp only[BY,E8];rw[if_neg hn,if_neg hn];exact⟨rfl,rfl⟩
def Vv(h1:decide (-9223372036854775808<=a.sl-b.sh/\a.sl-b.sh<=9223372036854775807)=ZB)(h2:decide (-9223372036854775808<=a.sh-b.sl/\a.sh-b.sl<=9223372036854775807)=ZB):
  IntKind.i64.wrap (a.sl-b.sh)=(BY ZB a b).sl/\IntKind.i64.wrap (a.sh-b.sl)=(BY ZB a b).sh:=by
 have h1:=Ah h1;have h2:=Ah h2;simp only[BY,FE];rw[if_pos ⟨h1,h2⟩,if_pos ⟨h1,h2⟩,aP,aP];omega
def ot(h:decide (-9223372036854775808<=a.sl-b.sh/\a.sl-b.sh<=9223372036854775807)=ZC\/decide (-9223372036854775808<=a.sh-b.sl/\a.sh-b.sl<=9223372036854775807)=ZC):
  ball.sl=(BY ZB a b).sl/\ball.sh=(BY ZB a b).sh:=by
 have hn:¬((-9223372036854775808<=a.sl-b.sh/\a.sl-b.sh<=9223372036854775807)/\(-9223372036854775808<=a.sh-b.sl/\a.sh-b.sl<=9223372036854775807)):=fun q=>by
  rcases h with h|h
  .exact Ab h q.1
  .exact Ab h q.2
 simp only[BY,FE];rw[if_neg hn,if_neg hn];exact⟨rfl,rfl⟩
include ha hb
theorem rp(h:((a.uh+b.uh) / 18446744073709551616==0)=ZB):Ac .add .u64 a.ul b.ul=(BY ZC a b).ul/\(a.uh+b.uh) % 18446744073709551616=(BY ZC a b).uh:=by have h:=cL.1 h;have wa:=(Rg.wf_of ha).2.1;have wb:=(Rg.wf_of hb).2.1;have hc:a.uh+b.uh<=18446744073709551615:=Fn;simp only[BY];rw[if_pos hc,if_pos hc];exact⟨rfl,by omega⟩
theorem rq(h:((a.uh+b.uh) / 18446744073709551616==0)=ZC):ball.ul=(BY ZC a b).ul/\ball.uh=(BY ZC a b).uh:=by have h:=beq_eq_false_iff_ne.1 h;have wa:=(Rg.wf_of ha).2.1;have wb:=(Rg.wf_of hb).2.1;have hc:¬a.uh+b.uh<=18446744073709551615:=Fn;simp only[BY];rw[if_neg hc,if_neg hc];exact⟨rfl,rfl⟩
omit ha hb
theorem sk(h:decide (a.ul<b.uh)=ZC):Ac .sub .u64 a.ul b.uh=(BY ZB a b).ul/\Ac .sub .u64 a.uh b.ul=(BY ZB a b).uh:=by have hc:b.uh<=a.ul:=bW.1 (Ab h);simp only[BY];rw[if_pos hc,if_pos hc];exact⟨rfl,rfl⟩
theorem sq(h:decide (a.ul<b.uh)=ZB):ball.ul=(BY ZB a b).ul/\ball.uh=(BY ZB a b).uh:=by have hc:¬b.uh<=a.ul:=Int.not_le.2 (Ah h);simp only[BY];rw[if_neg hc,if_neg hc];exact⟨rfl,rfl⟩
end
def fA{a b:Rg}(ma:AS a=ZB)(mb:AS b=ZB){X:Rg}(h:X=CW op a b):AG X=D0 op a b:=by unfold D0;rw[if_pos ⟨ma,mb⟩,h]
def art{a b:Rg}(ha:a.ok)(hb:b.ok)(ma:AS a=ZB)(mb:AS b=ZB):BY ZC a b=E8 a b:=by
 have wa:=Rg.wf_of ha;have wb:=Rg.wf_of hb;rw[dl]at ma mb;obtain⟨⟨a0,a1⟩,⟨a2,a3⟩,_⟩:=wa;obtain⟨⟨b0,b1⟩,⟨b2,b3⟩,_⟩:=wb;rw[Rg.ext_iff];refine⟨?_,rfl,rfl,rfl⟩;simp only[BY,E8];split
 .exact YG
 .rfl
def ars{a b:Rg}(ha:a.ok)(hb:b.ok)(ma:AS a=ZB)(mb:AS b=ZB):BY ZB a b=FE a b:=by
 have wa:=Rg.wf_of ha;have wb:=Rg.wf_of hb;rw[dl]at ma mb;obtain⟨⟨a0,a1⟩,⟨a2,a3⟩,_⟩:=wa;obtain⟨⟨b0,b1⟩,⟨b2,b3⟩,_⟩:=wb;rw[Rg.ext_iff];refine⟨?_,?_,rfl,rfl⟩<;>simp only[BY,FE]<;>split
 .exact YG
 .rfl
 .exact YG
 .rfl
def A4(h:(x==z)=ZB):x=z:=by simpa using h
def CS(h:(x==z)=ZC):x≠z:=by simpa using h
def zj(h0:0<=m)(h1:m<=18446744073709551615):Ac .sub .u64 (Ac .shl .u64 1 (ax m.toNat)) 1=kW m:=by have hb:ax m.toNat<=64:=gz Fn;have h2:=uE h1;unfold kW at h2 ⊢;show IntKind.u64.wrap (ZG .u64 (1*2 ^ min ((ax m.toNat:Int).toNat) 64)-1)=_;rw[cS,Nat.min_eq_left hb,Int.one_mul];generalize (2:Int) ^ ax m.toNat=t at *;rw[aT,aT];omega
def ag3(x0:0<=x)(x1:x<=18446744073709551615)(y0:0<y):Ac .quo .u64 x y=x / y:=by show IntKind.u64.wrap (x.tdiv y)=_;rw[Int.tdiv_eq_ediv_of_nonneg x0,aT];have:=ait (z:=y) x0 x1 y0;omega
def aq4{b:Rg}(hb:b.ok)(h:em b=ZB):Ac .and .u64 (aC b) 63=((Hu b:Nat):Int)/\Hu b<64:=by have wb:=Rg.wf_of hb;have e:aC b=b.ul:=YK;show bits .and .u64 (aC b) 63=_/\_;rw[e,ard _ wb.1.1 wb.1.2];unfold Hu;omega
def ag0{k:Nat}(x0:0<=x)(hk:k<64):Ac .shr .u64 x (k:Int)=x / 2 ^ k:=by show x.fdiv (2 ^ min (k:Int).toNat 64)=_;rw[cS,Nat.min_eq_left Fn,Int.fdiv_eq_ediv_of_nonneg _ (Int.le_of_lt (Int.pow_pos Fn))]
def ag2{k:Nat}(hk:k<64)(h:0<=x*2 ^ k)(h':x*2 ^ k<=18446744073709551615):Ac .shl .u64 x (k:Int)=x*2 ^ k:=by show IntKind.u64.wrap (x*2 ^ min (k:Int).toNat 64)=_;rw[cS,Nat.min_eq_left Fn,aT];omega
section
variable {op:Int}{a b:Rg}(ha:a.ok)(hb:b.ok)(ma:AS a=ZB)(mb:AS b=ZB)
include ha hb ma mb
theorem avS(h:(op==11)=ZB):AG b=D0 op a b:=fA ma mb (by rw[A4 h];simp[CW])
theorem dq_0(h:(op==0)=ZB):AG (BY (op==1) a b)=D0 op a b:=fA ma mb (by rw[A4 h];rw[show((0:Int)==1)=ZC from rfl,art ha hb ma mb];simp[CW])
theorem dq_1(h:(op==1)=ZB):AG (BY (op==1) a b)=D0 op a b:=fA ma mb (by rw[h,A4 h,ars ha hb ma mb];simp[CW])
theorem dq_5(h:(op==5)=ZB):AG ⟨ball.ul,min a.uh b.uh,ball.sl,ball.sh⟩=D0 op a b:=fA ma mb (by rw[A4 h];simp[CW,bu,ball])
theorem asv:0<=max a.uh b.uh/\max a.uh b.uh<=18446744073709551615:=by have wa:=Rg.wf_of ha;have wb:=Rg.wf_of hb;have:=wa.2.1;have:=wb.2.1;omega
theorem dq_4(h:(op==4)=ZB):AG ⟨max a.ul b.ul,Ac .sub .u64 (Ac .shl .u64 1 (ax (max a.uh b.uh).toNat)) 1,ball.sl,ball.sh⟩=D0 op a b:=fA ma mb (by
 have:=asv ha hb ma mb;rw[A4 h,zj this.1 this.2];simp[CW,bu,ball])
theorem avT(h:(op==10)=ZB):AG ⟨ball.ul,Ac .sub .u64 (Ac .shl .u64 1 (ax (max a.uh b.uh).toNat)) 1,ball.sl,ball.sh⟩=D0 op a b:=fA ma mb (by
 have:=asv ha hb ma mb;rw[A4 h,zj this.1 this.2];simp[CW,bu,ball])
theorem dq_3(h:(op==3)=ZB)(hc:decide (0<b.ul)=ZB):AG ⟨Ac .quo .u64 a.ul b.uh,Ac .quo .u64 a.uh b.ul,ball.sl,ball.sh⟩=D0 op a b:=fA ma mb (by
 have hc:=Ah hc;have wa:=Rg.wf_of ha;rw[dl]at mb;rw[A4 h,ag3 wa.1.1 wa.1.2 Fn,ag3 wa.2.1.1 wa.2.1.2 hc];simp[CW,bu,ball,hc])
theorem avR(h:(op==3)=ZB)(hc:decide (0<b.ul)=ZC):AG ⟨ball.ul,a.uh,ball.sl,ball.sh⟩=D0 op a b:=fA ma mb (by
 have hc:=Ab hc;rw[A4 h];simp[CW,bu,ball,hc])
theorem dq_9(h:(op==9)=ZB)(hc:decide (0<b.ul)=ZB):AG ⟨ball.ul,min a.uh (Ac .sub .u64 b.uh 1),ball.sl,ball.sh⟩=D0 op a b:=fA ma mb (by
 have hc:=Ah hc;have wb:=Rg.wf_of hb;rw[dl]at mb;rw[A4 h,show Ac .sub .u64 b.uh 1=b.uh-1 from by show IntKind.u64.wrap (b.uh-1)=_;rw[aT];have:=wb.2.1;omega];simp[CW,bu,ball,hc])
theorem avN(h:(op==9)=ZB)(hc:decide (0<b.ul)=ZC):AG ⟨ball.ul,a.uh,ball.sl,ball.sh⟩=D0 op a b:=fA ma mb (by
 have hc:=Ab hc;rw[A4 h];simp[CW,bu,ball,hc])
theorem dq_7(h:(op==7)=ZB)(hc:em b=ZB):AG ⟨Ac .shr .u64 a.ul (Ac .and .u64 (aC b) 63),Ac .shr .u64 a.uh (Ac .and .u64 (aC b) 63),ball.sl,ball.sh⟩=D0 op a b:=fA ma mb (by
 have wa:=Rg.wf_of ha;obtain⟨e,e2⟩:=aq4 hb hc;rw[A4 h,e,ag0 wa.1.1 e2,ag0 wa.2.1.1 e2];simp[CW,bu,ball,hc])
theorem avO(h:(op==7)=ZB)(hc:em b=ZC):AG ball=D0 op a b:=fA ma mb (by
 rw[A4 h];simp[CW,hc])
theorem Ts(hc:em b=ZB):decide (64-(ax a.uh.toNat:Int)<ZG .i64 (Ac .and .u64 (aC b) 63)) = !decide (ax a.uh.toNat+Hu b<=64):=by obtain⟨e,e2⟩:=aq4 hb hc;rw[e,aP];rw[aj];simp;omega
theorem dq_6(h:(op==6)=ZB)(hc:em b=ZB)(hl:decide (64-(ax a.uh.toNat:Int)<ZG .i64 (Ac .and .u64 (aC b) 63))=ZC):AG ⟨Ac .shl .u64 a.ul (Ac .and .u64 (aC b) 63),Ac .shl .u64 a.uh (Ac .and .u64 (aC b) 63),ball.sl,ball.sh⟩=D0 op a b:=fA ma mb (by
 have wa:=Rg.wf_of ha;rw[Ts ha hb ma mb hc]at hl;have B9:ax a.uh.toNat+Hu b<=64:=Yh;obtain⟨e,e2⟩:=aq4 hb hc;rw[dl]at ma;obtain⟨h1,h2,h3⟩:=afl wa.1.1 ma.1 B9;rw[A4 h,e,ag2 e2 h1 Fn,ag2 e2 Fn h3];simp[CW,bu,ball,hc,B9])
theorem avP(h:(op==6)=ZB)(hc:em b=ZB)(hl:decide (64-(ax a.uh.toNat:Int)<ZG .i64 (Ac .and .u64 (aC b) 63))=ZB):AG ball=D0 op a b:=fA ma mb (by
 rw[Ts ha hb ma mb hc]at hl;have B9:¬ax a.uh.toNat+Hu b<=64:=Yh;rw[A4 h];simp[CW,hc,B9])
theorem avQ(h:(op==6)=ZB)(hc:em b=ZC):AG ball=D0 op a b:=fA ma mb (by
 rw[A4 h];simp[CW,hc])
theorem dq_x(HL:(op==11)=ZC)(h0:(op==0)=ZC)(h1:(op==1)=ZC)(h5:(op==5)=ZC)(h4:(op==4)=ZC)(JX:(op==10)=ZC)(h3:(op==3)=ZC)(h9:(op==9)=ZC)(h7:(op==7)=ZC)(h6:(op==6)=ZC):AG ball=D0 op a b:=fA ma mb (by
 unfold CW;rw[if_neg (CS HL),if_neg (CS h0),if_neg (CS h1),if_neg (CS h5),if_neg (CS h4),if_neg (CS JX),if_neg (CS h3),if_neg (CS h9),if_neg (CS h7),if_neg (CS h6)])
end
def ana{a b:Rg}(h:AS a=ZC\/AS b=ZC):ball=D0 op a b:=by unfold D0;rw[if_neg (fun e=>by rcases h with h|h<;>simp[h]at e)]
def dy{r s:Rg}{u:Bool}(h:r=s)(h':t=u):[Dt.z r.ul,.z r.uh,.z r.sl,.z r.sh,.z (AE t)]=[Dt.z s.ul,.z s.uh,.z s.sl,.z s.sh,.z (AE u)]:=by rw[h,h']
section
variable {cc:Int}{a b X:Rg}
def kh(c0:cc≠0)(hg:jt cc a b=ZB)(hc:Bw cc a b=ZB)(e:X=BW cc a b):AG X=C7 cc a b/\Bc X=CN cc a b:=by
 subst e;have h1:CN cc a b=Bc (BW cc a b):=by unfold CN;rw[hg,hc,if_neg c0];rfl
 refine⟨?_,h1.symm⟩;unfold C7;rw[h1,if_neg c0];cases h:Bc (BW cc a b)
 .unfold AG;rw[h];simp
 .simp
def gP(h:jt cc a b=ZC\/(cc≠0/\Bw cc a b=ZC)):ball=C7 cc a b/\ZC=CN cc a b:=by
 have h1:CN cc a b=ZC:=by
  unfold CN;rcases h with h|⟨h0,h⟩
  .rw[h];rfl
  .rw[h,if_neg h0];simp
 exact⟨by unfold C7;rw[h1];simp,h1.symm⟩
def atx(hg:jt 0 a b=ZB):jr a b=C7 0 a b/\fh a b=CN 0 a b:=by
 have e:CN 0 a b=fh a b:=by unfold CN;rw[hg];rfl
 refine⟨?_,e.symm⟩;unfold C7;rw[e];cases h:fh a b
 .unfold jr;rw[h];simp
 .simp
def bY(c0:AS a=ZB)(c1:AS b=ZB)(h:0<=cc/\cc<=10):jt cc a b=ZB:=by unfold jt;rw[c0,c1,dg h.1,dg h.2];rfl
end
structure Kn where
 v:Int
 m:Int
 deriving DecidableEq
def Kn.wf(a:Kn):Prop:=(0<=a.v/\a.v<=18446744073709551615)/\(0<=a.m/\a.m<=18446744073709551615)
def kall:Kn:=⟨0,18446744073709551615⟩
def Eu(v:Int):Kn:=⟨v,0⟩
def Bv(a:Kn):Bool:=bits .and .u64 a.v a.m==0
def AX(a:Kn)(x:Int):Bool:=Bv a&&(bits .andNot .u64 x a.m==a.v)
def jZ(v m:Int):Kn:=⟨bits .andNot .u64 v m,m⟩
def jq(a b:Kn):Kn:=if Bv a=ZB/\Bv b=ZB then jZ a.v (bits .or .u64 (bits .or .u64 a.m b.m) (bits .xor .u64 a.v b.v))else kall
def yV(a b:Kn):Int:=bits .andNot .u64 (bits .xor .u64 a.v b.v) (bits .or .u64 a.m b.m)
def eA(a b:Kn):Bool:=Bv a&&(Bv b&&(yV a b==0))
def jp(a b:Kn):Kn:=if eA a b=ZB then jZ (bits .or .u64 a.v b.v) (bits .and .u64 a.m b.m)else kall
def Ky(a b:Kn):Bool:=Bv a&&(Bv b&&((bits .or .u64 a.m b.m==b.m)&&(bits .andNot .u64 a.v b.m==b.v)))
def B5(a:Kn)(w:Int):Kn:=if Bv a=ZB then⟨Ap a.v w,Ap a.m w⟩else kall
def JG(a b:Kn):Kn:=jZ (ZG .u64 (a.v+b.v)) (bits .or .u64 (bits .or .u64 (bits .xor .u64 (ZG .u64 (a.v+b.v)) (ZG .u64 (ZG .u64 (a.m+b.m)+ZG .u64 (a.v+b.v)))) a.m) b.m)
def Gl(a b:Kn):Kn:=jZ (ZG .u64 (a.v-b.v)) (bits .or .u64 (bits .or .u64 (bits .xor .u64 (ZG .u64 (ZG .u64 (a.v-b.v)+a.m)) (ZG .u64 (ZG .u64 (a.v-b.v)-b.m))) a.m) b.m)
def OF(a b:Kn):Kn:=⟨bits .and .u64 a.v b.v,bits .andNot .u64 (bits .and .u64 (bits .or .u64 a.v a.m) (bits .or .u64 b.v b.m)) (bits .and .u64 a.v b.v)⟩
def kor(a b:Kn):Kn:=⟨bits .or .u64 a.v b.v,bits .andNot .u64 (bits .or .u64 a.m b.m) (bits .or .u64 a.v b.v)⟩
def L7(a b:Kn):Kn:=jZ (bits .xor .u64 a.v b.v) (bits .or .u64 a.m b.m)
def Uj(op w:Int)(a b:Kn):Kn:=jZ (BD op w a.v (bits .and .u64 b.v (w-1))) (BD op w a.m (bits .and .u64 b.v (w-1)))
def Dl(op w:Int)(a b:Kn):Kn:=
 if op=0 then JG a b else if op=1 then Gl a b else if op=4 then kor a b else if op=5 then OF a b
 else if op=6\/op=7\/op=12 then(if(bits .and .u64 b.m (w-1)==0)=ZB then Uj op w a b else kall)
 else if op=8 then Gl (Eu 0) a else if op=10 then L7 a b else if op=11 then b else kall
def dX(op w:Int)(a b:Kn):Bool:=Bv a&&(Bv b&&(decide (0<=op)&&(decide (op<=12)&&fB w)))
def Jj(op w:Int)(a b:Kn):Kn:=
 if dX op w a b=ZB then
  (if(bits .or .u64 (B5 a w).m (B5 b w).m==0)=ZB then Eu (BD op w (B5 a w).v (B5 b w).v)else B5 (Dl op w (B5 a w) (B5 b w)) w)
 else kall
def C2(w:World)(b:Nat)(x y:Value):Prop:=w.cell? ⟨b,0,ZE⟩=ZA x/\w.cell? ⟨b,1,ZE⟩=ZA y/\∀j,w.frozen? ⟨b,j,ZE⟩=ZC
def Bk(w:World)(b:Nat)(cs:Array Value)(t:TypeId):Prop:=w.heap[b]? =ZA (.cells cs t (0,0))
def Bk.lt{w:World}{t:TypeId}(h:Bk w b cs t):b<w.heap.size:=by
 rcases bt b w.heap.size with As|DH
 .exact As
 .rw[Bk,Array.getElem?_eq_none DH]at h;cases h
def Bk.ext{w:World}{t:TypeId}(h:Bk w b cs t)(hx:Ext w w'):Bk w' b cs t:=by unfold Bk at h ⊢;rw[hx.block b (Bk.lt h)];exact h
def Bk.cell{w:World}{t:TypeId}(h:Bk w b cs t)(j:Nat):w.cell? ⟨b,j,ZE⟩=cs[j]? :=cell_of_row w b j cs t (0,0) h
def Bk.free{w:World}{t:TypeId}(h:Bk w b cs t)(j:Nat):w.frozen? ⟨b,j,ZE⟩=ZC:=frozen_of_row w b j cs t h
def Bk.new{w:World}{t:TypeId}(hx:Ext (w.alloc (.cells cs t)) w'):Bk w' w.heap.size cs t:=Bk.ext (w:=w.alloc (.cells cs t)) (heap_alloc_new _ _) hx
def Bk.two{w:World}{x y:Value}{t:TypeId}(h:Bk w b #[x,y] t):C2 w b x y:=⟨h.cell 0,h.cell 1,h.free⟩
def C2.ext{w:World}{x y:Value}(h:C2 w b x y)(hx:Ext w w'):C2 w' b x y:=⟨hx.cell h.1,hx.cell h.2.1,fun j=>(Below.frozen hx (p:=⟨b,j,ZE⟩) (World.block_lt_of_cell? w ⟨b,0,ZE⟩ h.1)).trans (h.2.2 j)⟩
def C2.lt{w:World}{x y:Value}(h:C2 w b x y):b<w.heap.size:=World.block_lt_of_cell? w ⟨b,0,ZE⟩ h.1
def C2.off1{w:World}{x y:Value}(h:C2 w b x y)(c j:Nat)(u:Value)(BM:c≠b):C2 (w.setCell ⟨c,j,ZE⟩ u) b x y:=by refine⟨(World.cell?_setCell_other w ⟨c,j,ZE⟩ ⟨b,0,ZE⟩ u (fun e=>BM (congrArg Addr.block e))).trans h.1,(World.cell?_setCell_other w ⟨c,j,ZE⟩ ⟨b,1,ZE⟩ u (fun e=>BM (congrArg Addr.block e))).trans h.2.1,fun i=> ?_⟩;have:=h.2.2 i;simpa[go_sem]using this
def C2.off{w:World}{x y:Value}(h:C2 w b x y)(c:Nat)(u v:Value)(BM:c≠b):C2 ((w.setCell ⟨c,0,ZE⟩ u).setCell ⟨c,1,ZE⟩ v) b x y:=(h.off1 c 0 u BM).off1 c 1 v BM
def C2.put{w:World}{x y:Value}(h:C2 w b x y)(u v:Value):C2 ((w.setCell ⟨b,0,ZE⟩ u).setCell ⟨b,1,ZE⟩ v) b u v:=by obtain⟨h0,h1,h2⟩:=h;have e0:(w.setCell ⟨b,0,ZE⟩ u).cell? ⟨b,0,ZE⟩=ZA u:=World.cell?_setCell_same w ⟨b,0,ZE⟩ u h0;have e1:(w.setCell ⟨b,0,ZE⟩ u).cell? ⟨b,1,ZE⟩=ZA y:=(World.cell?_setCell_other w ⟨b,0,ZE⟩ ⟨b,1,ZE⟩ u (by simp)).trans h1;refine⟨(World.cell?_setCell_other _ ⟨b,1,ZE⟩ ⟨b,0,ZE⟩ v (by simp)).trans e0,World.cell?_setCell_same _ ⟨b,1,ZE⟩ v e1,fun i=> ?_⟩;have:=h2 i;simpa[go_sem]using this
def sK(x:Int):0<=ZG .u64 x/\IntKind.u64.wrap x<=18446744073709551615:=by rw[aT];omega
def iF(x y:Int):0<=bits .and .u64 x y/\bits .and .u64 x y<=18446744073709551615:=sK _
def iO(x y:Int):0<=bits .or .u64 x y/\bits .or .u64 x y<=18446744073709551615:=sK _
def rh(x y:Int):0<=bits .xor .u64 x y/\bits .xor .u64 x y<=18446744073709551615:=sK _
def eo(x y:Int):0<=bits .andNot .u64 x y/\bits .andNot .u64 x y<=18446744073709551615:=sK _
def jx:kall.wf:=by unfold Kn.wf kall;simp
def sP(h:0<=v/\v<=18446744073709551615):(Eu v).wf:=⟨h,by simp[Eu]⟩
def eJ(h:0<=m/\m<=18446744073709551615):(jZ v m).wf:=⟨eo _ _,h⟩
def kv(a b:Kn):(jq a b).wf:=by unfold jq;split;exact eJ (iO _ _);exact jx
def jw{a:Kn}(h:a.wf)(w:Int):(B5 a w).wf:=by
 unfold B5;split
 .exact⟨de _ _ h.1.1 h.1.2,de _ _ h.2.1 h.2.2⟩
 .exact jx
def alS{a b:Kn}(ha:a.wf)(hb:b.wf)(op w:Int):(Dl op w a b).wf:=by
 have hs:=iF b.v (w-1);unfold Dl;repeat' split
 .exact eJ (iO _ _)
 .exact eJ (iO _ _)
 .exact⟨iO _ _,eo _ _⟩
 .exact⟨iF _ _,eo _ _⟩
 .exact eJ (ey _ _ _ _ ha.2.1 ha.2.2 hs.1 hs.2)
 .exact jx
 .exact eJ (iO _ _)
 .exact eJ (iO _ _)
 .exact hb
 .exact jx
def zH{a b:Kn}(ha:a.wf)(hb:b.wf)(op w:Int):(Jj op w a b).wf:=by
 have h1:=jw ha w;have h2:=jw hb w;unfold Jj;repeat' split
 .exact sP (ey _ _ _ _ h1.1.1 h1.1.2 h2.1.1 h2.1.2)
 .exact jw (alS h1 h2 _ _) _
 .exact jx
def Bk.set{w:World}{t:TypeId}(h:Bk w b cs t)(j:Nat)(v:Value):Bk (w.setCell ⟨b,j,ZE⟩ v) b (cs.setIfInBounds j v) t:=heap_setCell_same w b j cs t v h
def Bk.off{w:World}{t:TypeId}(h:Bk w b cs t)(c j:Nat)(v:Value)(BM:c≠b):Bk (w.setCell ⟨c,j,ZE⟩ v) b cs t:=by unfold Bk at h ⊢;rw[heap_setCell_other w ⟨c,j,ZE⟩ b v (fun e=>BM e.symm)];exact h
def ahm:∀n:Fin 256,Go.Lib.len8 (n.val:Int)=(ax n.val:Int):=by decide +kernel
def aiR{c:Nat}(h1:2 ^ c<=n)(h2:n<2 ^ (c+1)):ax n=c+1:=by
 have h3:=gz h2;rcases bt (ax n) (c+1)with h|h
 .have h4:=qH n;have h5:2 ^ ax n<=2 ^ c:=ZV Fn Fn;omega
 .exact Fn
def alF{k:Nat}(h:2 ^ k<=n):ax n=k+ax (n / 2 ^ k):=by
 have hp:0<2 ^ k:=Nat.pow_pos Fn;have h0:n / 2 ^ k≠0:=by have:=Nat.div_pos h hp;omega
 have h1:=aiQ h0;have h2:=qH (n / 2 ^ k);obtain⟨c,hc⟩:∃c,ax (n / 2 ^ k)=c+1:=by
  have:ax (n / 2 ^ k)≠0:=by intro h;rw[h]at h2;simp at h2;omega
  exact⟨ax (n / 2 ^ k)-1,by omega⟩
 rw[hc]at h1 h2 ⊢;have e1:2 ^ (k+c)<=n:=by rw[Nat.pow_add];have:=Nat.mul_le_mul_left (2 ^ k) h1;have h3:=Nat.mul_div_le n (2 ^ k);simp only[Nat.add_sub_cancel]at this;omega
 have e2:n<2 ^ (k+c+1):=by rw[Nat.add_assoc,Nat.pow_add];have h3:=Nat.lt_mul_div_succ n hp;have:=Nat.mul_le_mul_left (2 ^ k) (show n / 2 ^ k+1<=2 ^ (c+1) by omega);omega
 rw[aiR e1 e2];omega
def dU(h0:0<=x)(h1:x<256):Go.Lib.len8 x=(ax x.toNat:Int)/\ax x.toNat<=8:=by have:=ahm ⟨x.toNat,by omega⟩;have e:((x.toNat:Nat):Int)=x:=Fn;simp only[e]at this;exact⟨this,gz Fn⟩
def gH{i:Int}(h0:0<=i)(h1:i<256)(h2:i.toNat<Go.Lib.len8tab.size):(((Go.Lib.len8tab[i.toNat]'h2).toNat:Nat):Int)=Go.Lib.len8 i:=by simp only[Go.Lib.len8,ByteArray.getElem?_lt' _ _ h2,Option.getD_some]
def uR(h0:0<=x)(h1:x<256):ZG .u8 x=x:=by rw[show IntKind.u8.wrap x=x % 256 from by simp[IntKind.wrap,ZX,YV]];omega
def fv(k:Nat)(h0:(2:Int) ^ k<=x):ax x.toNat=k+ax (x / 2 ^ k).toNat:=by
 have e:((2:Int) ^ k)=((2 ^ k:Nat):Int):=by simp
 rw[e]at h0 ⊢;obtain⟨n,rfl⟩:∃n:Nat,x=n:=⟨x.toNat,by have:=Nat.pow_pos (n:=k) (show 0<2 by omega);omega⟩
 rw[alF (n:=(n:Int).toNat) (k:=k) Fn];congr 1
def at5(x:Int)(h0:0<=x)(h1:x<=18446744073709551615)(W w:World)(hx:Ext W w):
  Calls ZF 143 #[.int .u64 x] w fun e w'=>e=.returned (.int .i64 (ax x.toNat))/\Ext W w':=by
 obtain⟨r,hr⟩:∃r,ax x.toNat=r:=⟨_,rfl⟩
 rw[hr];have HR:=B0 hr;clear hr;by_cases c0:4294967296<=x
 .by_cases c1:65536<=(x / 4294967296)
  .by_cases c2:256<=((x / 4294967296) / 65536)
   .have q0:0<=(((x / 4294967296) / 65536) / 256):=by omega
    have q1:(((x / 4294967296) / 65536) / 256)<256:=Fn;have e4:=uR q0 q1;have E:=B0 (dU q0 q1);have l0:=fv (x:=x) 32 Fn;simp only[Int.reducePow]at l0;have L0:=B0 l0;clear l0;have l1:=fv (x:=(x / 4294967296)) 16 Fn;simp only[Int.reducePow]at l1;have L1:=B0 l1;clear l1;have l2:=fv (x:=((x / 4294967296) / 65536)) 8 Fn;simp only[Int.reducePow]at l2;have L2:=B0 l2;clear l2;have hN:Hid (r=32+(16+(8+(ax (((x / 4294967296) / 65536) / 256).toNat)))):=B0 (by rw[<-HR.out,L0.out,L1.out,L2.out])
    as_aux_lemma=>
     go_enter Tryz.func143,Tryz.ntmps143
     go_wp2_with fail
     all_goals
      go_ret
      refine⟨bk ?_,hx⟩;have hm:=E.out.2;rw[gH q0 q1,E.out.1,hN.out];generalize ax _=m at hm ⊢;clear q0 q1 e4 c0 c1 c2 h0 h1;simp only[wrap64];omega
   .have q0:0<=((x / 4294967296) / 65536):=by omega
    have q1:((x / 4294967296) / 65536)<256:=Fn;have e4:=uR q0 q1;have E:=B0 (dU q0 q1);have l0:=fv (x:=x) 32 Fn;simp only[Int.reducePow]at l0;have L0:=B0 l0;clear l0;have l1:=fv (x:=(x / 4294967296)) 16 Fn;simp only[Int.reducePow]at l1;have L1:=B0 l1;clear l1;have hN:Hid (r=32+(16+(ax ((x / 4294967296) / 65536).toNat))):=B0 YO
    as_aux_lemma=>
     go_enter Tryz.func143,Tryz.ntmps143
     go_wp2_with fail
     all_goals
      go_ret
      refine⟨bk ?_,hx⟩;have hm:=E.out.2;rw[gH q0 q1,E.out.1,hN.out];generalize ax _=m at hm ⊢;clear q0 q1 e4 c0 c1 c2 h0 h1;simp only[wrap64];omega
  .by_cases c2:256<=(x / 4294967296)
   .have q0:0<=((x / 4294967296) / 256):=by omega
    have q1:((x / 4294967296) / 256)<256:=Fn;have e4:=uR q0 q1;have E:=B0 (dU q0 q1);have l0:=fv (x:=x) 32 Fn;simp only[Int.reducePow]at l0;have L0:=B0 l0;clear l0;have l1:=fv (x:=(x / 4294967296)) 8 Fn;simp only[Int.reducePow]at l1;have L1:=B0 l1;clear l1;have hN:Hid (r=32+(8+(ax ((x / 4294967296) / 256).toNat))):=B0 YO
    as_aux_lemma=>
     go_enter Tryz.func143,Tryz.ntmps143
     go_wp2_with fail
     all_goals
      go_ret
      refine⟨bk ?_,hx⟩;have hm:=E.out.2;rw[gH q0 q1,E.out.1,hN.out];generalize ax _=m at hm ⊢;clear q0 q1 e4 c0 c1 c2 h0 h1;simp only[wrap64];omega
   .have q0:0<=(x / 4294967296):=by omega
    have q1:(x / 4294967296)<256:=Fn;have e4:=uR q0 q1;have E:=B0 (dU q0 q1);have l0:=fv (x:=x) 32 Fn;simp only[Int.reducePow]at l0;have L0:=B0 l0;clear l0;have hN:Hid (r=32+(ax (x / 4294967296).toNat)):=B0 (by rw[<-HR.out,L0.out])
    as_aux_lemma=>
     go_enter Tryz.func143,Tryz.ntmps143
     go_wp2_with fail
     all_goals
      go_ret
      refine⟨bk ?_,hx⟩;have hm:=E.out.2;rw[gH q0 q1,E.out.1,hN.out];generalize ax _=m at hm ⊢;clear q0 q1 e4 c0 c1 c2 h0 h1;simp only[wrap64];omega
 .by_cases c1:65536<=x
  .by_cases c2:256<=(x / 65536)
   .have q0:0<=((x / 65536) / 256):=by omega
    have q1:((x / 65536) / 256)<256:=Fn;have e4:=uR q0 q1;have E:=B0 (dU q0 q1);have l0:=fv (x:=x) 16 Fn;simp only[Int.reducePow]at l0;have L0:=B0 l0;clear l0;have l1:=fv (x:=(x / 65536)) 8 Fn;simp only[Int.reducePow]at l1;have L1:=B0 l1;clear l1;have hN:Hid (r=16+(8+(ax ((x / 65536) / 256).toNat))):=B0 YO
    as_aux_lemma=>
     go_enter Tryz.func143,Tryz.ntmps143
     go_wp2_with fail
     all_goals
      go_ret
      refine⟨bk ?_,hx⟩;have hm:=E.out.2;rw[gH q0 q1,E.out.1,hN.out];generalize ax _=m at hm ⊢;clear q0 q1 e4 c0 c1 c2 h0 h1;simp only[wrap64];omega
   .have q0:0<=(x / 65536):=by omega
    have q1:(x / 65536)<256:=Fn;have e4:=uR q0 q1;have E:=B0 (dU q0 q1);have l0:=fv (x:=x) 16 Fn;simp only[Int.reducePow]at l0;have L0:=B0 l0;clear l0;have hN:Hid (r=16+(ax (x / 65536).toNat)):=B0 (by rw[<-HR.out,L0.out])
    as_aux_lemma=>
     go_enter Tryz.func143,Tryz.ntmps143
     go_wp2_with fail
     all_goals
      go_ret
      refine⟨bk ?_,hx⟩;have hm:=E.out.2;rw[gH q0 q1,E.out.1,hN.out];generalize ax _=m at hm ⊢;clear q0 q1 e4 c0 c1 c2 h0 h1;simp only[wrap64];omega
  .by_cases c2:256<=x
   .have q0:0<=(x / 256):=by omega
    have q1:(x / 256)<256:=Fn;have e4:=uR q0 q1;have E:=B0 (dU q0 q1);have l0:=fv (x:=x) 8 Fn;simp only[Int.reducePow]at l0;have L0:=B0 l0;clear l0;have hN:Hid (r=8+(ax (x / 256).toNat)):=B0 (by rw[<-HR.out,L0.out])
    as_aux_lemma=>
     go_enter Tryz.func143,Tryz.ntmps143
     go_wp2_with fail
     all_goals
      go_ret
      refine⟨bk ?_,hx⟩;have hm:=E.out.2;rw[gH q0 q1,E.out.1,hN.out];generalize ax _=m at hm ⊢;clear q0 q1 e4 c0 c1 c2 h0 h1;simp only[wrap64];omega
   .have q0:0<=x:=by omega
    have q1:x<256:=Fn;have e4:=uR q0 q1;have E:=B0 (dU q0 q1);have hN:Hid (r=ax x.toNat):=B0 (by rw[<-HR.out])
    as_aux_lemma=>
     go_enter Tryz.func143,Tryz.ntmps143
     go_wp2_with fail
     all_goals
      go_ret
      refine⟨bk ?_,hx⟩;have hm:=E.out.2;rw[gH q0 q1,E.out.1,hN.out];generalize ax _=m at hm ⊢;clear q0 q1 e4 c0 c1 c2 h0 h1;simp only[wrap64];omega
def WB(x:Int)(h0:0<=x)(h1:x<=18446744073709551615)(W w:World)(hx:Ext W w):
  Calls ZF 145 #[.int .u64 x] w fun e w'=>e=.returned (.int .i64 (64-ax x.toNat))/\Ext W w':=by
 have hb:ax x.toNat<=64:=gz Fn;obtain⟨r,hr⟩:∃r,ax x.toNat=r:=⟨_,rfl⟩
 have HR:=B0 hr;rw[hr]at hb ⊢;clear hr
 go_enter Tryz.func145,Tryz.ntmps145
 go_wp2_with (first
  |(go_at_call 143;(with_reducible refine(at5 x h0 h1 W _ (by assumption)).mono ?_);rintro e w' ⟨rfl,F9⟩;rw[HR.out])
  |fail)
 go_ret
 refine⟨bk ?_,by assumption⟩
 all_goals (first|(simp only[wrap64];done)|(simp only[wrap64];omega)|omega)
def Bs(op l:Int):Bool:=(decide (0<=op)&&decide (op<=12))&&fB l
def pn(h:0<=x/\x<=18446744073709551615):Ae .u64 x=ZB:=by rw[bA];simpa[IntKind.min,IntKind.max,YV,ZX]using h
def ahX(h : -9223372036854775808<=x/\x<=9223372036854775807):Ae .i64 x=ZB:=by rw[bA];simpa[IntKind.min,IntKind.max,YV,ZX]using h
def lf(k:q2)(h:p->q=q2:=by intro e;(try simp only[e,bN,-eq_self]);rfl):p->q:=fun e=>(h e).symm▸k
def aow:List (Nat×TI):=[(2,CB),
 (39,eX),
 (46,gZ)]
def ad8:∀t i,(t,i)∈aow->TIok ZF t i:=bi B1 B1 (by kernel_rfl)
def c_add64:Cd:=⟨179,[.one (.int .u64),.one (.int .u64),.one (.p .u64 0)],[.one (.int .u64),.one (.int .u64)],rdZ fun x=>rdZ fun y _=>[.z ((x+y) % 18446744073709551616),.z ((x+y) / 18446744073709551616)],T0⟩
def akh(x:Int)(hx:Ae .u64 x=ZB)(y:Int)(hy:Ae .u64 y=ZB):(∀w,(callFunc 179 #[.int .u64 x,.int .u64 y,.int .u64 0]).run ZF w=.ok (.value (.tuple #[.int .u64 ((x+y) % 18446744073709551616),.int .u64 ((x+y) / 18446744073709551616)])) w)/\fP (.tuple #[.int .u64 ((x+y) % 18446744073709551616),.int .u64 ((x+y) / 18446744073709551616)])=ZB:=by
 have gx:=cU hx;have gy:=cU hy;refine⟨fun w=> ?_,?_⟩
 .rw[run_callFunc_extern Tryz.func179 (by kernel_rfl) (by kernel_rfl) (by kernel_rfl) (e:=add64Entry) (by kernel_rfl),run_add64 x y 0 gx.1 gy.1 Fn Fn];simp only[Result.andThen,Int.add_zero]
 .have h1:Ae .u64 ((x+y) % 18446744073709551616)=ZB:=pn Fn;have h2:Ae .u64 ((x+y) / 18446744073709551616)=ZB:=pn Fn;simp[fP,fc,fg,h1,h2]
def aqA:c_add64.Ok ZF:=fun hF hP=>by
 refine SmOk.pure (s:=c_add64.m _) hF rfl rfl fun xs vals w h=> ?_;obtain⟨_,_,_,rfl,⟨x0,rfl,rfl,C8⟩,h⟩:=h;obtain⟨_,_,_,rfl,⟨x1,rfl,rfl,Du⟩,h⟩:=h;obtain⟨_,_,_,rfl,⟨rfl,rfl⟩,h⟩:=h;obtain⟨rfl,rfl⟩:=h;have q:=akh x0 C8 x1 Du;refine⟨_,.inl (q.1 w),?_,fun U v0 nid j he=> ?_⟩
 .have q2:=q.2;simp[fP,fc,fg]at q2;simp[c_add64,Cd.m,tp,rdZ,rdB,rdL,ZR,ZU,Sh.cks,YR,ZO,ZQ,b2i_one,gE,q2]
 .simp only[c_add64,Cd.m,tp,rdZ,rdB,rdL,ZR,ZU,Sh.cks,YR,ZO,ZQ,b2i_one,eqs,dI,dB,cy,lY,bJ,ZS,ZD,and_true]at he;simp[c_add64,Cd.m,tp,rdZ,rdB,rdL,ZR,ZU,Sh.cks,YR,ZO,ZQ,b2i_one,fY,bH,aE,V.den,C.den,Af,BL,cm,E.I,E.B,he]
def c_len:Cd:=⟨143,[.one (.int .u64)],[.one (.int .i64)],rdZ fun x _=>[.z ((ax x.toNat:Int))],T0⟩
def arS(x:Int)(hx:Ae .u64 x=ZB):(∀w,Calls ZF 143 #[.int .u64 x] w fun e w'=>e=.returned (.int .i64 ((ax x.toNat:Int)))/\Ext w w')/\fP (.int .i64 ((ax x.toNat:Int)))=ZB:=by have g:=cU hx;have hb:ax x.toNat<=64:=gz Fn;have h:Ae .i64 (ax x.toNat:Int)=ZB:=ahX Fn;exact⟨fun w=>at5 x g.1 g.2 w w (Ext.refl w),h⟩
def au5:c_len.Ok ZF:=fun hF hP=>by
 refine SmOk.pure (s:=c_len.m _) hF rfl rfl fun xs vals w h=> ?_;obtain⟨_,_,_,rfl,⟨x0,rfl,rfl,C8⟩,h⟩:=h;obtain⟨rfl,rfl⟩:=h;have q:=arS x0 C8;refine⟨_,.inr ⟨dD Tryz.func143 (by kernel_rfl) (by kernel_rfl) _ w,q.1 w⟩,?_,fun U v0 nid j he=> ?_⟩
 .have q2:=q.2;simp[fP,fc,fg]at q2;simp[c_len,Cd.m,tp,rdZ,rdB,rdL,ZR,ZU,Sh.cks,YR,ZO,ZQ,b2i_one,gE,q2]
 .simp only[c_len,Cd.m,tp,rdZ,rdB,rdL,ZR,ZU,Sh.cks,YR,ZO,ZQ,b2i_one,eqs,dI,dB,cy,lY,bJ,ZS,ZD,and_true]at he;simp[c_len,Cd.m,tp,rdZ,rdB,rdL,ZR,ZU,Sh.cks,YR,ZO,ZQ,b2i_one,fY,bH,aE,V.den,C.den,Af,BL,cm,E.I,E.B,he]
def c_lz:Cd:=⟨145,[.one (.int .u64)],[.one (.int .i64)],rdZ fun x _=>[.z (64-(ax x.toNat:Int))],T0⟩
def auH(x:Int)(hx:Ae .u64 x=ZB):(∀w,Calls ZF 145 #[.int .u64 x] w fun e w'=>e=.returned (.int .i64 (64-(ax x.toNat:Int)))/\Ext w w')/\fP (.int .i64 (64-(ax x.toNat:Int)))=ZB:=by have g:=cU hx;have hb:ax x.toNat<=64:=gz Fn;have h:Ae .i64 (64-(ax x.toNat:Int))=ZB:=ahX Fn;exact⟨fun w=>WB x g.1 g.2 w w (Ext.refl w),h⟩
def S8:c_lz.Ok ZF:=fun hF hP=>by
 refine SmOk.pure (s:=c_lz.m _) hF rfl rfl fun xs vals w h=> ?_;obtain⟨_,_,_,rfl,⟨x0,rfl,rfl,C8⟩,h⟩:=h;obtain⟨rfl,rfl⟩:=h;have q:=auH x0 C8;refine⟨_,.inr ⟨dD Tryz.func145 (by kernel_rfl) (by kernel_rfl) _ w,q.1 w⟩,?_,fun U v0 nid j he=> ?_⟩
 .have q2:=q.2;simp[fP,fc,fg]at q2;simp[c_lz,Cd.m,tp,rdZ,rdB,rdL,ZR,ZU,Sh.cks,YR,ZO,ZQ,b2i_one,gE,q2]
 .simp only[c_lz,Cd.m,tp,rdZ,rdB,rdL,ZR,ZU,Sh.cks,YR,ZO,ZQ,b2i_one,eqs,dI,dB,cy,lY,bJ,ZS,ZD,and_true]at he;simp[c_lz,Cd.m,tp,rdZ,rdB,rdL,ZR,ZU,Sh.cks,YR,ZO,ZQ,b2i_one,fY,bH,aE,V.den,C.den,Af,BL,cm,E.I,E.B,he]
def c_sum:Cd:=⟨144,[.agg kRg,.agg kRg,.one .bool],[.agg kRg],rd_Rg fun a=>rd_Rg fun b=>rdB fun t _=>d_Rg (BY t a b) [],T0⟩
def N6:Tr:=(.u (.cons (.f .add .u64 (.w 0) (.w 4)) (.cons (.w 13) (.vs 11 2 .nil))))
def Oi:Tr:=(.u (.cons (.f .sub .u64 (.w 0) (.w 5)) (.cons (.f .sub .u64 (.w 1) (.w 4)) (.vs 11 2 .nil))))
def amh:Tr:=
(.call 0 (kRg) .nil 9
(.br (.s 8)
(.br (.lt (.w 0) (.w 5))
(.call 3 [.int .i64,.bool] (.cons (.w 2) (.cons (.w 7) .nil)) 13
(.call 3 [.int .i64,.bool] (.cons (.w 3) (.cons (.w 6) .nil)) 15
(.br (.s 14)
(.br (.s 16)
(.u (.vs 9 2 (.cons (.w 13) (.cons (.w 15) .nil))))
(.u (.vs 9 4 .nil)))
(.u (.vs 9 4 .nil)))))
(.call 3 [.int .i64,.bool] (.cons (.w 2) (.cons (.w 7) .nil)) 13
(.call 3 [.int .i64,.bool] (.cons (.w 3) (.cons (.w 6) .nil)) 15
(.br (.s 14)
(.br (.s 16)
(.u (.cons (.f .sub .u64 (.w 0) (.w 5)) (.cons (.f .sub .u64 (.w 1) (.w 4)) (.cons (.w 13) (.cons (.w 15) .nil)))))
Oi)
Oi))))
(.call 1 [.int .u64,.int .u64] (.cons (.w 1) (.cons (.w 5) .nil)) 13
(.br (.eq (.w 14) (.p 0))
(.call 2 [.int .i64,.bool] (.cons (.w 2) (.cons (.w 6) .nil)) 15
(.call 2 [.int .i64,.bool] (.cons (.w 3) (.cons (.w 7) .nil)) 17
(.br (.s 16)
(.br (.s 18)
(.u (.cons (.f .add .u64 (.w 0) (.w 4)) (.cons (.w 13) (.cons (.w 15) (.cons (.w 17) .nil)))))
N6)
N6)))
(.call 2 [.int .i64,.bool] (.cons (.w 2) (.cons (.w 6) .nil)) 15
(.call 2 [.int .i64,.bool] (.cons (.w 3) (.cons (.w 7) .nil)) 17
(.br (.s 16)
(.br (.s 18)
(.u (.vs 9 2 (.cons (.w 15) (.cons (.w 17) .nil))))
(.u (.vs 9 4 .nil)))
(.u (.vs 9 4 .nil)))))))))
def au3:c_sum.Ok ZF:=
 AT amh (v_Rg (v_Rg [.bool])) ad8 (Am nJ<|Am aqA<|Am as4<|Am aqt AI) Tryz.func144<|du fun a ha=>du fun b hb=>fun t hp U g=>by
 simp only[AJ,AB,ZD]at g;simp only[amh,Oi,N6,c_all,c_add64,c_plus,c_minus,c_sum,AJ,Ai,ZH,ZD,-eq_self,bN,g];refine lf ?_;apply aI<;>intro c0;apply aI<;>intro c1;refine lf ?_;refine lf ?_;apply aI<;>intro c2;apply aI<;>intro c3
 ·(subst c0;exact EV (sq c1).1 (sq c1).2 (Vv c2 c3).1 (Vv c2 c3).2)
 ·(subst c0;exact EV (sq c1).1 (sq c1).2 (ot (.inr c3)).1 (ot (.inr c3)).2)
 ·(subst c0;exact EV (sq c1).1 (sq c1).2 (ot (.inl c2)).1 (ot (.inl c2)).2)
 refine lf ?_;refine lf ?_;apply aI<;>intro c4;apply aI<;>intro c5
 ·(subst c0;exact EV (sk c1).1 (sk c1).2 (Vv c4 c5).1 (Vv c4 c5).2)
 ·(subst c0;exact EV (sk c1).1 (sk c1).2 (ot (.inr c5)).1 (ot (.inr c5)).2)
 ·(subst c0;exact EV (sk c1).1 (sk c1).2 (ot (.inl c4)).1 (ot (.inl c4)).2)
 refine lf ?_;apply aI<;>intro c6;refine lf ?_;refine lf ?_;apply aI<;>intro c7;apply aI<;>intro c8
 ·(subst c0;exact EV (rp ha hb c6).1 (rp ha hb c6).2 (TD c7 c8).1 (TD c7 c8).2)
 ·(subst c0;exact EV (rp ha hb c6).1 (rp ha hb c6).2 (nV (.inr c8)).1 (nV (.inr c8)).2)
 ·(subst c0;exact EV (rp ha hb c6).1 (rp ha hb c6).2 (nV (.inl c7)).1 (nV (.inl c7)).2)
 refine lf ?_;refine lf ?_;apply aI<;>intro c9;apply aI<;>intro BF
 ·(subst c0;exact EV (rq ha hb c6).1 (rq ha hb c6).2 (TD c9 BF).1 (TD c9 BF).2)
 ·(subst c0;exact EV (rq ha hb c6).1 (rq ha hb c6).2 (nV (.inr BF)).1 (nV (.inr BF)).2)
 ·(subst c0;exact EV (rq ha hb c6).1 (rq ha hb c6).2 (nV (.inl c9)).1 (nV (.inl c9)).2)
def cO(k:q2)(h:p->q=q2:=by intro e;(try simp only[e,bN,-eq_self]);rfl):p->q:=fun e=>(h e).symm▸k
def aov:List (Nat×TI):=[(2,CB),
 (3,CU),
 (38,fT),
 (39,eX),
 (46,gZ),
 (96,Vf)]
def ad7:∀t i,(t,i)∈aov->TIok ZF t i:=bi B1 B1 (by kernel_rfl)
def c_do:Cd:=⟨110,[.one (.int .i8),.agg kRg,.agg kRg],[.agg kRg],rdZ fun op=>rd_Rg fun a=>rd_Rg fun b _=>d_Rg (D0 op a b) [],T0⟩
def My:Tr:=(.call 6 (kRg) (.vs 11 4 .nil) 18
(.u (.vs 18 4 .nil)))
def Pw:E:=(.cons (.f .sub .u64 (.f .shl .u64 (.p 1) (.w 17)) (.p 1)) (.vs 13 2 .nil))
def OV:Tr:=(.call 6 (kRg) (.cons (.w 11) (.cons (.w 2) (.vs 13 2 .nil))) 18
(.u (.vs 18 4 .nil)))
def Pb:Tr:=(.call 5 (kRg) (.vs 1 8 (.j (.eq (.w 0) (.p 1)) .nil)) 18
(.call 6 (kRg) (.vs 18 4 .nil) 22
(.u (.vs 22 4 .nil))))
def arV:Tr:=
(.call 0 [.bool] (.vs 1 4 .nil) 9
(.br (.s 9)
(.call 0 [.bool] (.vs 5 4 .nil) 10
(.br (.s 10)
(.call 1 (kRg) .nil 11
(.call 2 [.int .u64,.bool] (.vs 5 4 .nil) 15
(.call 3 [.int .i64] (.cons (.mx (.w 2) (.w 6)) .nil) 17
(.br (.lt (.w 17) (.p 0))
.panic
(.br (.eq (.w 0) (.p 11))
(.call 6 (kRg) (.vs 5 4 .nil) 18
(.u (.vs 18 4 .nil)))
(.br (.eq (.w 0) (.p 0))
Pb
(.br (.eq (.w 0) (.p 1))
Pb
(.br (.eq (.w 0) (.p 5))
(.call 6 (kRg) (.cons (.w 11) (.cons (.mn (.w 2) (.w 6)) (.vs 13 2 .nil))) 18
(.u (.vs 18 4 .nil)))
(.br (.eq (.w 0) (.p 4))
(.call 6 (kRg) (.cons (.mx (.w 1) (.w 5)) Pw) 18
(.u (.vs 18 4 .nil)))
(.br (.eq (.w 0) (.p 10))
(.call 6 (kRg) (.cons (.w 11) Pw) 18
(.u (.vs 18 4 .nil)))
(.br (.eq (.w 0) (.p 3))
(.br (.lt (.p 0) (.w 5))
(.br (.eq (.w 6) (.p 0))
.panic
(.br (.eq (.w 5) (.p 0))
.panic
(.call 6 (kRg) (.cons (.f .quo .u64 (.w 1) (.w 6)) (.cons (.f .quo .u64 (.w 2) (.w 5)) (.vs 13 2 .nil))) 18
(.u (.vs 18 4 .nil)))))
OV)
(.br (.eq (.w 0) (.p 9))
(.br (.lt (.p 0) (.w 5))
(.call 6 (kRg) (.cons (.w 11) (.cons (.mn (.w 2) (.f .sub .u64 (.w 6) (.p 1))) (.vs 13 2 .nil))) 18
(.u (.vs 18 4 .nil)))
OV)
(.br (.eq (.w 0) (.p 7))
(.br (.s 16)
(.call 6 (kRg) (.cons (.f .shr .u64 (.w 1) (.f .and .u64 (.w 15) (.p 63))) (.cons (.f .shr .u64 (.w 2) (.f .and .u64 (.w 15) (.p 63))) (.vs 13 2 .nil))) 18
(.u (.vs 18 4 .nil)))
My)
(.br (.eq (.w 0) (.p 6))
(.br (.s 16)
(.call 4 [.int .i64] (.cons (.w 2) .nil) 18
(.br (.lt (.w 18) (.F .i64 (.f .and .u64 (.w 15) (.p 63))))
(.call 6 (kRg) (.vs 11 4 .nil) 19
(.u (.vs 19 4 .nil)))
(.call 6 (kRg) (.cons (.f .shl .u64 (.w 1) (.f .and .u64 (.w 15) (.p 63))) (.cons (.f .shl .u64 (.w 2) (.f .and .u64 (.w 15) (.p 63))) (.vs 13 2 .nil))) 19
(.u (.vs 19 4 .nil)))))
My)
My))))))))))))))
(.call 1 (kRg) .nil 11
(.u (.vs 11 4 .nil)))))
(.call 1 (kRg) .nil 10
(.u (.vs 10 4 .nil)))))
def RY:c_do.Ok ZF:=
 AT arV (.int .i8::v_Rg (v_Rg [])) ad7 (Am wU<|Am nJ<|Am uo<|Am au5<|Am S8<|Am au3<|Am amN AI) Tryz.func110<|fun op Ad=>du fun a ha=>du fun b hb hp U g=>by
 simp only[AJ,AB,ZD]at g;simp only[arV,Pb,OV,Pw,My,c_may,c_all,c_single,c_len,c_lz,c_sum,c_nard,c_do,AJ,Ai,ZH,ZD,-eq_self,bN,g];refine cO ?_;apply aI<;>intro c0;refine cO ?_;apply aI<;>intro c1;refine cO ?_;refine cO ?_;refine cO ?_;apply aI<;>intro c2
 .exact absurd (Ah c2) Fn
 apply aI<;>intro c3;refine cO ?_
 .exact eB (avS ha hb c0 c1 c3)
 apply aI<;>intro c4;refine cO ?_;refine cO ?_
 .exact eB (dq_0 ha hb c0 c1 c4)
 apply aI<;>intro c5;refine cO ?_;refine cO ?_
 .exact eB (dq_1 ha hb c0 c1 c5)
 apply aI<;>intro c6;refine cO ?_
 .exact eB (dq_5 ha hb c0 c1 c6)
 apply aI<;>intro c7;refine cO ?_
 .exact eB (dq_4 ha hb c0 c1 c7)
 apply aI<;>intro c8;refine cO ?_
 .exact eB (avT ha hb c0 c1 c8)
 apply aI<;>intro c9;apply aI<;>intro BF;apply aI<;>intro CG
 ·(have hm:=(dl b).1 c1;have h1:=Ah BF;have h2:=A4 CG;omega)
 apply aI<;>intro Ca
 ·(have hm:=(dl b).1 c1;have h1:=Ah BF;have h2:=A4 Ca;omega)
 refine cO ?_
 .exact eB (dq_3 ha hb c0 c1 c9 BF)
 refine cO ?_
 .exact eB (avR ha hb c0 c1 c9 BF)
 apply aI<;>intro Cp;apply aI<;>intro CD;refine cO ?_
 .exact eB (dq_9 ha hb c0 c1 Cp CD)
 refine cO ?_
 .exact eB (avN ha hb c0 c1 Cp CD)
 apply aI<;>intro C3;apply aI<;>intro Dk;refine cO ?_
 .exact eB (dq_7 ha hb c0 c1 C3 Dk)
 refine cO ?_
 .exact eB (avO ha hb c0 c1 C3 Dk)
 apply aI<;>intro Dg;apply aI<;>intro Dh;refine cO ?_;apply aI<;>intro DB;refine cO ?_
 .exact eB (avP ha hb c0 c1 Dg Dh DB)
 refine cO ?_
 .exact eB (dq_6 ha hb c0 c1 Dg Dh DB)
 refine cO ?_
 .exact eB (avQ ha hb c0 c1 Dg Dh)
 refine cO ?_
 .exact eB (dq_x ha hb c0 c1 c3 c4 c5 c6 c7 c8 c9 Cp C3 Dg)
 refine cO ?_
 .exact eB (ana (.inr c1))
 refine cO ?_
 .exact eB (ana (.inl c0))
section
variable {a b:Rg}(ha:a.ok)(hb:b.ok)
include ha hb
theorem avs(h:(!(((2:Int)==2)&&(b.ul==18446744073709551615)))=ZC):Bw 2 a b=ZC:=by have h2:b.ul=18446744073709551615:=Xx;simp[Bw,h2]
theorem avA(h:(!(((2:Int)==2)&&(b.ul==18446744073709551615)))=ZB):Bw 2 a b=ZB:=by have h2:b.ul≠18446744073709551615:=Xx;simp[Bw,h2]
theorem avn(h:(!(((2:Int)==2)&&(b.ul==18446744073709551615)))=ZB):(⟨if((2:Int)==2)=ZB/\(b.ul==18446744073709551615)=ZB then a.ul else max a.ul (if((2:Int)==2)=ZB then IntKind.u64.wrap (b.ul+1)else b.ul),a.uh,a.sl,a.sh⟩:Rg)=BW 2 a b:=by have h2:b.ul≠18446744073709551615:=Xx;have wa:=Rg.wf_of ha;have wb:=Rg.wf_of hb;obtain⟨⟨a0,a1⟩,⟨a2,a3⟩,⟨a4,a5⟩,a6,a7⟩:=wa;obtain⟨⟨b0,b1⟩,⟨b2,b3⟩,⟨b4,b5⟩,b6,b7⟩:=wb;have h3:ZG .u64 (b.ul+1)=b.ul+1:=YG;simp[BW,Rg.ext_iff,h2,h3]
theorem avz(h:(!(((3:Int)==2)&&(b.ul==18446744073709551615)))=ZB):Bw 3 a b=ZB:=by simp[Bw]
theorem avm(h:(!(((3:Int)==2)&&(b.ul==18446744073709551615)))=ZB):(⟨if((3:Int)==2)=ZB/\(b.ul==18446744073709551615)=ZB then a.ul else max a.ul (if((3:Int)==2)=ZB then IntKind.u64.wrap (b.ul+1)else b.ul),a.uh,a.sl,a.sh⟩:Rg)=BW 3 a b:=by simp[BW,Rg.ext_iff]
theorem avr(h:(!(((4:Int)==4)&&(b.uh==0)))=ZC):Bw 4 a b=ZC:=by have h2:b.uh=0:=Xx;simp[Bw,h2]
theorem avy(h:(!(((4:Int)==4)&&(b.uh==0)))=ZB):Bw 4 a b=ZB:=by have h2:b.uh≠0:=Xx;simp[Bw,h2]
theorem avl(h:(!(((4:Int)==4)&&(b.uh==0)))=ZB):(⟨a.ul,if((4:Int)==4)=ZB/\(b.uh==0)=ZB then a.uh else min a.uh (if((4:Int)==4)=ZB then IntKind.u64.wrap (b.uh-1)else b.uh),a.sl,a.sh⟩:Rg)=BW 4 a b:=by have h2:b.uh≠0:=Xx;have wa:=Rg.wf_of ha;have wb:=Rg.wf_of hb;obtain⟨⟨a0,a1⟩,⟨a2,a3⟩,⟨a4,a5⟩,a6,a7⟩:=wa;obtain⟨⟨b0,b1⟩,⟨b2,b3⟩,⟨b4,b5⟩,b6,b7⟩:=wb;have h3:ZG .u64 (b.uh-1)=b.uh-1:=YG;simp[BW,Rg.ext_iff,h2,h3]
theorem avx(h:(!(((5:Int)==4)&&(b.uh==0)))=ZB):Bw 5 a b=ZB:=by simp[Bw]
theorem avk(h:(!(((5:Int)==4)&&(b.uh==0)))=ZB):(⟨a.ul,if((5:Int)==4)=ZB/\(b.uh==0)=ZB then a.uh else min a.uh (if((5:Int)==4)=ZB then IntKind.u64.wrap (b.uh-1)else b.uh),a.sl,a.sh⟩:Rg)=BW 5 a b:=by simp[BW,Rg.ext_iff]
theorem avq(h:(!(((6:Int)==6)&&(b.sl==9223372036854775807)))=ZC):Bw 6 a b=ZC:=by have h2:b.sl=9223372036854775807:=Xx;simp[Bw,h2]
theorem avw(h:(!(((6:Int)==6)&&(b.sl==9223372036854775807)))=ZB):Bw 6 a b=ZB:=by have h2:b.sl≠9223372036854775807:=Xx;simp[Bw,h2]
theorem avj(h:(!(((6:Int)==6)&&(b.sl==9223372036854775807)))=ZB):(⟨a.ul,a.uh,if((6:Int)==6)=ZB/\(b.sl==9223372036854775807)=ZB then a.sl else max a.sl (if((6:Int)==6)=ZB then IntKind.i64.wrap (b.sl+1)else b.sl),a.sh⟩:Rg)=BW 6 a b:=by
 have h2:b.sl≠9223372036854775807:=Xx;have wa:=Rg.wf_of ha;have wb:=Rg.wf_of hb;obtain⟨⟨a0,a1⟩,⟨a2,a3⟩,⟨a4,a5⟩,a6,a7⟩:=wa;obtain⟨⟨b0,b1⟩,⟨b2,b3⟩,⟨b4,b5⟩,b6,b7⟩:=wb;have h3:ZG .i64 (b.sl+1)=b.sl+1:=by rw[aP];omega
 simp[BW,Rg.ext_iff,h2,h3]
theorem avv(h:(!(((7:Int)==6)&&(b.sl==9223372036854775807)))=ZB):Bw 7 a b=ZB:=by simp[Bw]
theorem avi(h:(!(((7:Int)==6)&&(b.sl==9223372036854775807)))=ZB):(⟨a.ul,a.uh,if((7:Int)==6)=ZB/\(b.sl==9223372036854775807)=ZB then a.sl else max a.sl (if((7:Int)==6)=ZB then IntKind.i64.wrap (b.sl+1)else b.sl),a.sh⟩:Rg)=BW 7 a b:=by simp[BW,Rg.ext_iff]
theorem avp(h:(!(((8:Int)==8)&&(b.sh==(-9223372036854775808))))=ZC):Bw 8 a b=ZC:=by have h2:b.sh=(-9223372036854775808):=Xx;simp[Bw,h2]
theorem avu(h:(!(((8:Int)==8)&&(b.sh==(-9223372036854775808))))=ZB):Bw 8 a b=ZB:=by have h2:b.sh≠(-9223372036854775808):=Xx;simp[Bw,h2]
theorem avh(h:(!(((8:Int)==8)&&(b.sh==(-9223372036854775808))))=ZB):(⟨a.ul,a.uh,a.sl,if((8:Int)==8)=ZB/\(b.sh==(-9223372036854775808))=ZB then a.sh else min a.sh (if((8:Int)==8)=ZB then IntKind.i64.wrap (b.sh-1)else b.sh)⟩:Rg)=BW 8 a b:=by
 have h2:b.sh≠(-9223372036854775808):=Xx;have wa:=Rg.wf_of ha;have wb:=Rg.wf_of hb;obtain⟨⟨a0,a1⟩,⟨a2,a3⟩,⟨a4,a5⟩,a6,a7⟩:=wa;obtain⟨⟨b0,b1⟩,⟨b2,b3⟩,⟨b4,b5⟩,b6,b7⟩:=wb;have h3:ZG .i64 (b.sh-1)=b.sh-1:=by rw[aP];omega
 simp[BW,Rg.ext_iff,h2,h3]
theorem avt(h:(!(((9:Int)==8)&&(b.sh==(-9223372036854775808))))=ZB):Bw 9 a b=ZB:=by simp[Bw]
theorem avg(h:(!(((9:Int)==8)&&(b.sh==(-9223372036854775808))))=ZB):(⟨a.ul,a.uh,a.sl,if((9:Int)==8)=ZB/\(b.sh==(-9223372036854775808))=ZB then a.sh else min a.sh (if((9:Int)==8)=ZB then IntKind.i64.wrap (b.sh-1)else b.sh)⟩:Rg)=BW 9 a b:=by simp[BW,Rg.ext_iff]
theorem atw:Bw 10 a b=ZB:=by simp[Bw]
theorem att:a=BW 10 a b:=by simp[BW]
theorem atv(h:em b=ZC):Bw 1 a b=ZB:=by simp[Bw,h]
theorem ats(h:em b=ZC):a=BW 1 a b:=by simp[BW,h]
theorem atu(h:em b=ZB)(hu:(!((a.ul==aC b)&&(a.uh==aC b)))=ZC\/(!((a.sl==ZG .i64 (aC b))&&(a.sh==ZG .i64 (aC b))))=ZC):Bw 1 a b=ZC:=by
 have hs:aC b=b.ul:=YK;have ht:ZG .i64 b.ul=BZ b.ul:=(bS _).symm;rw[hs,ht]at hu;simp only[Bw,h,if_true];rcases hu with hu|hu
 .simp at hu;simp[hu]
 .simp at hu;simp[hu]
theorem avB(h:em b=ZB)(hu:(!((a.ul==aC b)&&(a.uh==aC b)))=ZB)(hv:(!((a.sl==ZG .i64 (aC b))&&(a.sh==ZG .i64 (aC b))))=ZB):Bw 1 a b=ZB:=by have hs:aC b=b.ul:=YK;have ht:ZG .i64 b.ul=BZ b.ul:=(bS _).symm;rw[hs]at hu;rw[hs,ht]at hv;simp only[Bw,h,if_true];simp at hu hv ⊢;exact⟨hu,hv⟩
theorem avo(ma:AS a=ZB)(h:em b=ZB)(hu:(!((a.ul==aC b)&&(a.uh==aC b)))=ZB)(hv:(!((a.sl==ZG .i64 (aC b))&&(a.sh==ZG .i64 (aC b))))=ZB):(⟨if(a.ul==aC b)=ZB/\(a.uh==aC b)=ZC then IntKind.u64.wrap (a.ul+1)else a.ul,if(a.ul==aC b)=ZC/\(a.uh==aC b)=ZB then IntKind.u64.wrap (a.uh-1)else a.uh,if(a.sl==ZG .i64 (aC b))=ZB/\(a.sh==ZG .i64 (aC b))=ZC then IntKind.i64.wrap (a.sl+1)else a.sl,if(a.sl==ZG .i64 (aC b))=ZC/\(a.sh==ZG .i64 (aC b))=ZB then IntKind.i64.wrap (a.sh-1)else a.sh⟩:Rg)=BW 1 a b:=by have hs:aC b=b.ul:=YK;have ht:ZG .i64 b.ul=BZ b.ul:=(bS _).symm;rw[hs]at hu;rw[hs,ht]at hv;rw[hs,ht];have wa:=Rg.wf_of ha;have wb:=Rg.wf_of hb;obtain⟨⟨a0,a1⟩,⟨a2,a3⟩,⟨a4,a5⟩,a6,a7⟩:=wa;obtain⟨⟨b0,b1⟩,⟨b2,b3⟩,⟨b4,b5⟩,b6,b7⟩:=wb;have sb:=fV b.ul;rw[dl]at ma;simp only[BW,h,if_true,Rg.ext_iff];generalize BZ b.ul=t at *;simp only[ZP,Bool.and_eq_false_iff,beq_eq_false_iff_ne,ne_eq]at hu hv;simp only[cL,beq_eq_false_iff_ne,ne_eq,aT,aP];refine⟨?_,?_,?_,?_⟩<;>(split<;>(try split)<;>omega)
end
def au(k:q2)(h:p->q=q2:=by intro e;(try simp only[e,bN,-eq_self]);rfl):p->q:=fun e=>(h e).symm▸k
def aef:List (Nat×TI):=[(2,CB),
 (38,fT),
 (39,eX),
 (46,gZ),
 (183,aeD),
 (185,aeC)]
def fQ:∀t i,(t,i)∈aef->TIok ZF t i:=bi B1 B1 (by kernel_rfl)
def c_bits:Cd:=⟨108,[.one (.int .i8),.one (.int .i8),.one (.int .u64),.one (.int .u64)],[.one (.int .u64),.one (.int .i64)],rdZ fun op=>rdZ fun l=>rdZ fun x=>rdZ fun y _=>[.z (if Bs op l=ZB then BD op l x y else 0),.z (if Bs op l=ZB then 0 else 2)],T0⟩
def afp(op:Int)(Ad:Ae .i8 op=ZB)(l:Int)(hl:Ae .i8 l=ZB)(x:Int)(hx:Ae .u64 x=ZB)(y:Int)(hy:Ae .u64 y=ZB):(∀w,Calls ZF 108 #[.int .i8 op,.int .i8 l,.int .u64 x,.int .u64 y] w fun e w'=>e=.returned (.tuple #[.int .u64 (if Bs op l=ZB then BD op l x y else 0),.int .i64 (if Bs op l=ZB then 0 else 2)])/\Ext w w')/\fP (.tuple #[.int .u64 (if Bs op l=ZB then BD op l x y else 0),.int .i64 (if Bs op l=ZB then 0 else 2)])=ZB:=by
 have gx:=cU hx;have gy:=cU hy;cases hk:Bs op l
 .refine⟨fun w=>(atO op l x y w ?_).mono ?_,by simp[fP,fc,fg];decide⟩
  .unfold Bs at hk;rw[Bool.and_eq_false_iff,Bool.and_eq_false_iff]at hk;rcases hk with(hk|hk)|hk
   .have:=Ab hk;simp;omega
   .have:=Ab hk;simp;omega
   .rw[hk];simp
  .rintro e w' ⟨rfl,rfl⟩;exact⟨by simp,Ext.refl _⟩
 .unfold Bs at hk;simp only[ne,aB]at hk;have hz:=pn (ey op l x y gx.1 gx.2 gy.1 gy.2);refine⟨fun w=>(atP op l x y w gx.1 gx.2 gy.1 gy.2 hk.1.1 hk.1.2 hk.2).mono ?_,by simp[fP,fc,fg,hz];decide⟩;rintro e w' ⟨rfl,hx⟩;exact⟨by simp,hx⟩
def atm:c_bits.Ok ZF:=fun hF hP=>by
 refine SmOk.pure (s:=c_bits.m _) hF rfl rfl fun xs vals w h=> ?_;obtain⟨_,_,_,rfl,⟨x0,rfl,rfl,C8⟩,h⟩:=h;obtain⟨_,_,_,rfl,⟨x1,rfl,rfl,Du⟩,h⟩:=h;obtain⟨_,_,_,rfl,⟨x2,rfl,rfl,Gd⟩,h⟩:=h;obtain⟨_,_,_,rfl,⟨x3,rfl,rfl,Gj⟩,h⟩:=h;obtain⟨rfl,rfl⟩:=h;have q:=afp x0 C8 x1 Du x2 Gd x3 Gj;refine⟨_,.inr ⟨dD Tryz.func108 (by kernel_rfl) (by kernel_rfl) _ w,q.1 w⟩,?_,fun U v0 nid j he=> ?_⟩
 .have q2:=q.2;simp[fP,fc,fg]at q2;simp[c_bits,Cd.m,tp,rdZ,rdB,rdL,ZR,ZU,Sh.cks,YR,ZO,ZQ,b2i_one,gE,q2]
 .simp only[c_bits,Cd.m,tp,rdZ,rdB,rdL,ZR,ZU,Sh.cks,YR,ZO,ZQ,b2i_one,eqs,dI,dB,cy,lY,bJ,ZS,ZD,and_true]at he;simp[c_bits,Cd.m,tp,rdZ,rdB,rdL,ZR,ZU,Sh.cks,YR,ZO,ZQ,b2i_one,fY,bH,aE,V.den,C.den,Af,BL,cm,E.I,E.B,he]
def c_uwo:Cd:=⟨123,[.agg kPu,.one (.int .u64)],[.agg kPu,.one .bool],rd_Pu fun a=>rdZ fun v _=>d_Pu ((⟨if(a.lo==v)=ZB/\(a.hi==v)=ZC then IntKind.u64.wrap (a.lo+1)else a.lo,if(a.lo==v)=ZC/\(a.hi==v)=ZB then IntKind.u64.wrap (a.hi-1)else a.hi⟩:Pu)) [.z (AE ((!((a.lo==v)&&(a.hi==v)))))],T0⟩
def amf:Tr:=
(.br (.eq (.w 0) (.w 2))
(.br (.eq (.w 1) (.w 2))
(.u (.vs 0 2 (.j (.tt ZC) .nil)))
(.u (.cons (.f .add .u64 (.w 0) (.p 1)) (.cons (.w 1) (.j (.tt ZB) .nil)))))
(.br (.eq (.w 1) (.w 2))
(.u (.cons (.w 0) (.cons (.f .sub .u64 (.w 1) (.p 1)) (.j (.tt ZB) .nil))))
(.u (.vs 0 2 (.j (.tt ZB) .nil)))))
def au2:c_uwo.Ok ZF:=
 AT amf (v_Pu [.int .u64]) fQ AI Tryz.func123<|je fun a ha=>fun v hv hp U g=>by
 simp only[BN,AB,ZD]at g;simp only[amf,c_uwo,BN,Ai,ZH,ZD,-eq_self,Pu.eta,g]
 .repeat' first|apply aI<;>intro c|exact XA
def c_iwo:Cd:=⟨124,[.agg kPi,.one (.int .i64)],[.agg kPi,.one .bool],rd_Pi fun a=>rdZ fun v _=>d_Pi ((⟨if(a.lo==v)=ZB/\(a.hi==v)=ZC then IntKind.i64.wrap (a.lo+1)else a.lo,if(a.lo==v)=ZC/\(a.hi==v)=ZB then IntKind.i64.wrap (a.hi-1)else a.hi⟩:Pi)) [.z (AE ((!((a.lo==v)&&(a.hi==v)))))],T0⟩
def amp:Tr:=
(.br (.eq (.w 0) (.w 2))
(.br (.eq (.w 1) (.w 2))
(.u (.vs 0 2 (.j (.tt ZC) .nil)))
(.u (.cons (.f .add .i64 (.w 0) (.p 1)) (.cons (.w 1) (.j (.tt ZB) .nil)))))
(.br (.eq (.w 1) (.w 2))
(.u (.cons (.w 0) (.cons (.f .sub .i64 (.w 1) (.p 1)) (.j (.tt ZB) .nil))))
(.u (.vs 0 2 (.j (.tt ZB) .nil)))))
def au9:c_iwo.Ok ZF:=
 AT amp (v_Pi [.int .i64]) fQ AI Tryz.func124<|jf fun a ha=>fun v hv hp U g=>by
 simp only[BP,AB,ZD]at g;simp only[amp,c_iwo,BP,Ai,ZH,ZD,-eq_self,Pi.eta,g]
 .repeat' first|apply aI<;>intro c|exact XA
def c_uabove:Cd:=⟨125,[.agg kPu,.agg kPu,.one .bool,.one (.int .u64)],[.agg kPu,.one .bool],rd_Pu fun a=>rd_Pu fun b=>rdB fun t=>rdZ fun m _=>d_Pu ((⟨if t=ZB/\(b.lo==m)=ZB then a.lo else max a.lo (if t=ZB then IntKind.u64.wrap (b.lo+1)else b.lo),a.hi⟩:Pu)) [.z (AE ((!(t&&(b.lo==m)))))],T0⟩
def vK:Tr:=
(.br (.s 4)
(.br (.eq (.w 2) (.w 5))
(.u (.vs 0 2 (.j (.tt ZC) .nil)))
(.u (.cons (.mx (.w 0) (.f .add .u64 (.w 2) (.p 1))) (.cons (.w 1) (.j (.tt ZB) .nil)))))
(.u (.cons (.mx (.w 0) (.w 2)) (.cons (.w 1) (.j (.tt ZB) .nil)))))
def akK:c_uabove.Ok ZF:=
 AT vK (v_Pu (v_Pu [.bool,.int .u64])) fQ AI Tryz.func125<|je fun a ha=>je fun b hb=>fun t m hm hp U g=>by
 simp only[BN,AB,ZD]at g;simp only[vK,c_uabove,BN,Ai,ZH,ZD,-eq_self,Pu.eta,g]
 .repeat' first|apply aI<;>intro c|exact XA
def c_ubelow:Cd:=⟨126,[.agg kPu,.agg kPu,.one .bool,.one (.int .u64)],[.agg kPu,.one .bool],rd_Pu fun a=>rd_Pu fun b=>rdB fun t=>rdZ fun m _=>d_Pu ((⟨a.lo,if t=ZB/\(b.hi==m)=ZB then a.hi else min a.hi (if t=ZB then IntKind.u64.wrap (b.hi-1)else b.hi)⟩:Pu)) [.z (AE ((!(t&&(b.hi==m)))))],T0⟩
def vJ:Tr:=
(.br (.s 4)
(.br (.eq (.w 3) (.w 5))
(.u (.vs 0 2 (.j (.tt ZC) .nil)))
(.u (.cons (.w 0) (.cons (.mn (.w 1) (.f .sub .u64 (.w 3) (.p 1))) (.j (.tt ZB) .nil)))))
(.u (.cons (.w 0) (.cons (.mn (.w 1) (.w 3)) (.j (.tt ZB) .nil)))))
def akJ:c_ubelow.Ok ZF:=
 AT vJ (v_Pu (v_Pu [.bool,.int .u64])) fQ AI Tryz.func126<|je fun a ha=>je fun b hb=>fun t m hm hp U g=>by
 simp only[BN,AB,ZD]at g;simp only[vJ,c_ubelow,BN,Ai,ZH,ZD,-eq_self,Pu.eta,g]
 .repeat' first|apply aI<;>intro c|exact XA
def c_iabove:Cd:=⟨127,[.agg kPi,.agg kPi,.one .bool,.one (.int .i64)],[.agg kPi,.one .bool],rd_Pi fun a=>rd_Pi fun b=>rdB fun t=>rdZ fun m _=>d_Pi ((⟨if t=ZB/\(b.lo==m)=ZB then a.lo else max a.lo (if t=ZB then IntKind.i64.wrap (b.lo+1)else b.lo),a.hi⟩:Pi)) [.z (AE ((!(t&&(b.lo==m)))))],T0⟩
def wc:Tr:=
(.br (.s 4)
(.br (.eq (.w 2) (.w 5))
(.u (.vs 0 2 (.j (.tt ZC) .nil)))
(.u (.cons (.mx (.w 0) (.f .add .i64 (.w 2) (.p 1))) (.cons (.w 1) (.j (.tt ZB) .nil)))))
(.u (.cons (.mx (.w 0) (.w 2)) (.cons (.w 1) (.j (.tt ZB) .nil)))))
def ak7:c_iabove.Ok ZF:=
 AT wc (v_Pi (v_Pi [.bool,.int .i64])) fQ AI Tryz.func127<|jf fun a ha=>jf fun b hb=>fun t m hm hp U g=>by
 simp only[BP,AB,ZD]at g;simp only[wc,c_iabove,BP,Ai,ZH,ZD,-eq_self,Pi.eta,g]
 .repeat' first|apply aI<;>intro c|exact XA
def c_ibelow:Cd:=⟨128,[.agg kPi,.agg kPi,.one .bool,.one (.int .i64)],[.agg kPi,.one .bool],rd_Pi fun a=>rd_Pi fun b=>rdB fun t=>rdZ fun m _=>d_Pi ((⟨a.lo,if t=ZB/\(b.hi==m)=ZB then a.hi else min a.hi (if t=ZB then IntKind.i64.wrap (b.hi-1)else b.hi)⟩:Pi)) [.z (AE ((!(t&&(b.hi==m)))))],T0⟩
def vZ:Tr:=
(.br (.s 4)
(.br (.eq (.w 3) (.w 5))
(.u (.vs 0 2 (.j (.tt ZC) .nil)))
(.u (.cons (.w 0) (.cons (.mn (.w 1) (.f .sub .i64 (.w 3) (.p 1))) (.j (.tt ZB) .nil)))))
(.u (.cons (.w 0) (.cons (.mn (.w 1) (.w 3)) (.j (.tt ZB) .nil)))))
def ak6:c_ibelow.Ok ZF:=
 AT vZ (v_Pi (v_Pi [.bool,.int .i64])) fQ AI Tryz.func128<|jf fun a ha=>jf fun b hb=>fun t m hm hp U g=>by
 simp only[BP,AB,ZD]at g;simp only[vZ,c_ibelow,BP,Ai,ZH,ZD,-eq_self,Pi.eta,g]
 .repeat' first|apply aI<;>intro c|exact XA
def c_given:Cd:=⟨82,[.one (.int .i8),.agg kRg,.agg kRg],[.agg kRg,.one .bool],rdZ fun cc=>rd_Rg fun a=>rd_Rg fun b _=>d_Rg (C7 cc a b) [.z (AE (CN cc a b))],T0⟩
def an8:Tr:=(.call 1 (kRg) .nil 20
(.u (.vs 20 4 (.j (.tt ZC) .nil))))
def an9:Tr:=(.call 1 (kRg) .nil 23
(.u (.vs 23 4 (.j (.tt ZC) .nil))))
def VD:Tr:=(.call 1 (kRg) .nil 11
(.u (.vs 11 4 (.j (.tt ZC) .nil))))
def aoa:Tr:=(.call 13 (kRg++[.bool]) (.vs 20 4 .nil) 24
(.u (.vs 24 4 (.j (.s 28) .nil))))
def aob:Tr:=(.br (.s 19)
(.call 12 (kRg) (.vs 11 2 (.vs 17 2 .nil)) 20
aoa)
an8)
def aoc:Tr:=(.br (.s 19)
(.call 12 (kRg) (.vs 17 2 (.vs 13 2 .nil)) 20
aoa)
an8)
def aod:Tr:=(.call 4 (kPu) (.vs 5 4 .nil) 15
(.call 9 (kPu++[.bool]) (.vs 11 2 (.vs 15 2 (.j (.eq (.w 0) (.p 4)) (.cons (.p 0) .nil)))) 17
aoc))
def aoe:Tr:=(.call 5 (kPi) (.vs 5 4 .nil) 15
(.call 10 (kPi++[.bool]) (.vs 13 4 (.j (.eq (.w 0) (.p 6)) (.cons (.p 9223372036854775807) .nil))) 17
aob))
def aof:Tr:=(.call 5 (kPi) (.vs 5 4 .nil) 15
(.call 11 (kPi++[.bool]) (.vs 13 4 (.j (.eq (.w 0) (.p 8)) (.cons (.p (-9223372036854775808)) .nil))) 17
aob))
def aog:Tr:=(.call 4 (kPu) (.vs 5 4 .nil) 15
(.call 8 (kPu++[.bool]) (.vs 11 2 (.vs 15 2 (.j (.eq (.w 0) (.p 2)) (.cons (.p 18446744073709551615) .nil)))) 17
aoc))
def tG:Tr:=
(.call 0 [.bool] (.vs 1 4 .nil) 9
(.br (.s 9)
(.call 0 [.bool] (.vs 5 4 .nil) 10
(.br (.s 10)
(.br (.lt (.w 0) (.p 0))
VD
(.br (.lt (.p 10) (.w 0))
VD
(.call 4 (kPu) (.vs 1 4 .nil) 11
(.call 5 (kPi) (.vs 1 4 .nil) 13
(.br (.eq (.w 0) (.p 0))
(.call 2 (kRg++[.bool]) (.vs 1 8 .nil) 15
(.u (.vs 15 4 (.j (.s 19) .nil))))
(.br (.eq (.w 0) (.p 1))
(.call 3 [.int .u64,.bool] (.vs 5 4 .nil) 15
(.br (.s 16)
(.call 6 (kPu++[.bool]) (.vs 11 2 (.cons (.w 15) .nil)) 17
(.call 7 (kPi++[.bool]) (.vs 13 2 (.cons (.F .i64 (.w 15)) .nil)) 20
(.br (.s 19)
(.br (.s 22)
(.call 12 (kRg) (.vs 17 2 (.vs 20 2 .nil)) 23
(.call 13 (kRg++[.bool]) (.vs 23 4 .nil) 27
(.u (.vs 27 4 (.j (.s 31) .nil)))))
an9)
an9)))
(.call 12 (kRg) (.vs 11 4 .nil) 17
(.call 13 (kRg++[.bool]) (.vs 17 4 .nil) 21
(.u (.vs 21 4 (.j (.s 25) .nil)))))))
(.br (.eq (.w 0) (.p 2))
aog
(.br (.eq (.w 0) (.p 3))
aog
(.br (.eq (.w 0) (.p 4))
aod
(.br (.eq (.w 0) (.p 5))
aod
(.br (.eq (.w 0) (.p 6))
aoe
(.br (.eq (.w 0) (.p 7))
aoe
(.br (.eq (.w 0) (.p 8))
aof
(.br (.eq (.w 0) (.p 9))
aof
(.call 12 (kRg) (.vs 11 4 .nil) 15
(.call 13 (kRg++[.bool]) (.vs 15 4 .nil) 19
(.u (.vs 19 4 (.j (.s 23) .nil)))))))))))))))))))
VD))
(.call 1 (kRg) .nil 10
(.u (.vs 10 4 (.j (.tt ZC) .nil))))))
def akk:cb aef (FJ 0 [c_may,c_all,c_meet,c_single,c_uns,c_sig,c_uwo,c_iwo,c_uabove,c_ubelow,c_iabove,c_ibelow,c_of,c_nar]) [] [] [] 200 Tryz.f82 c_given.a c_given.r (tp c_given.r) (.int .i8::v_Rg (v_Rg [])) tG:=E0 (by kernel_rfl)
def aqy:c_given.Ok ZF:=
 GE tG (.int .i8::v_Rg (v_Rg [])) fQ (Am wU<|Am nJ<|Am amO<|Am uo<|Am Qf<|Am PK<|Am au2<|Am au9<|Am akK<|Am akJ<|Am ak7<|Am ak6<|Am Jw<|Am aqs AI) Tryz.func82 E2 akk<|fun cc Cs=>du fun a ha=>du fun b hb hp U g=>by
 simp only[AJ,BN,BP,AB,ZD]at g;simp only[tG,aog,aof,aoe,aod,aoc,aob,aoa,VD,an9,an8,c_may,c_all,c_meet,c_single,c_uns,c_sig,c_uwo,c_iwo,c_uabove,c_ubelow,c_iabove,c_ibelow,c_of,c_nar,c_given,AJ,BN,BP,Ai,ZH,ZD,-eq_self,bN,g];refine au ?_;apply aI<;>intro c0;refine au ?_;apply aI<;>intro c1;apply aI<;>intro c2;refine au ?_
 .exact dy (gP (.inl (by unfold jt;rw[c0,c1,eY (show¬0<=cc from Int.not_le.2 (Ah c2))];rfl))).1 (gP (.inl (by unfold jt;rw[c0,c1,eY (show¬0<=cc from Int.not_le.2 (Ah c2))];rfl))).2
 apply aI<;>intro c3;refine au ?_
 .exact dy (gP (.inl (by unfold jt;rw[c0,c1,eY (show¬cc<=10 from Int.not_le.2 (Ah c3))];simp))).1 (gP (.inl (by unfold jt;rw[c0,c1,eY (show¬cc<=10 from Int.not_le.2 (Ah c3))];simp))).2
 refine au ?_;refine au ?_;apply aI<;>intro c4;refine au ?_
 ·(have Cs:0<=cc/\cc<=10:=⟨bW.1 (Ab c2),bW.1 (Ab c3)⟩;have hg:=bY c0 c1 Cs;obtain rfl:=A4 c4;exact dy (atx hg).1 (atx hg).2)
 apply aI<;>intro c5;refine au ?_;apply aI<;>intro c6;refine au ?_;refine au ?_;apply aI<;>intro c7;apply aI<;>intro c8;refine au ?_;refine au ?_
 ·(have Cs:0<=cc/\cc<=10:=⟨bW.1 (Ab c2),bW.1 (Ab c3)⟩;have hg:=bY c0 c1 Cs;obtain rfl:=A4 c5;have hq:=kh Fn hg (avB ha hb c6 c7 c8) (avo ha hb c0 c6 c7 c8);exact dy hq.1 hq.2)
 refine au ?_
 ·(have Cs:0<=cc/\cc<=10:=⟨bW.1 (Ab c2),bW.1 (Ab c3)⟩;have hg:=bY c0 c1 Cs;obtain rfl:=A4 c5;have hq:=gP (cc:=1) (.inr ⟨by omega,atu ha hb c6 (.inr c8)⟩);exact dy hq.1 hq.2)
 refine au ?_
 ·(have Cs:0<=cc/\cc<=10:=⟨bW.1 (Ab c2),bW.1 (Ab c3)⟩;have hg:=bY c0 c1 Cs;obtain rfl:=A4 c5;have hq:=gP (cc:=1) (.inr ⟨by omega,atu ha hb c6 (.inl c7)⟩);exact dy hq.1 hq.2)
 refine au ?_;refine au ?_
 ·(have Cs:0<=cc/\cc<=10:=⟨bW.1 (Ab c2),bW.1 (Ab c3)⟩;have hg:=bY c0 c1 Cs;obtain rfl:=A4 c5;have hq:=kh Fn hg (atv ha hb c6) (ats ha hb c6);exact dy hq.1 hq.2)
 apply aI<;>intro c9;refine au ?_;refine au ?_;apply aI<;>intro BF;refine au ?_;refine au ?_
 ·(have Cs:0<=cc/\cc<=10:=⟨bW.1 (Ab c2),bW.1 (Ab c3)⟩;have hg:=bY c0 c1 Cs;obtain rfl:=A4 c9;have hq:=kh Fn hg (avA ha hb BF) (avn ha hb BF);exact dy hq.1 hq.2)
 refine au ?_
 ·(have Cs:0<=cc/\cc<=10:=⟨bW.1 (Ab c2),bW.1 (Ab c3)⟩;have hg:=bY c0 c1 Cs;obtain rfl:=A4 c9;have hq:=gP (cc:=2) (.inr ⟨by omega,avs ha hb BF⟩);exact dy hq.1 hq.2)
 apply aI<;>intro CG;refine au ?_;refine au ?_;apply aI<;>intro Ca;refine au ?_;refine au ?_
 ·(have Cs:0<=cc/\cc<=10:=⟨bW.1 (Ab c2),bW.1 (Ab c3)⟩;have hg:=bY c0 c1 Cs;obtain rfl:=A4 CG;have hq:=kh Fn hg (avz ha hb Ca) (avm ha hb Ca);exact dy hq.1 hq.2)
 refine au ?_
 ·(have Cs:0<=cc/\cc<=10:=⟨bW.1 (Ab c2),bW.1 (Ab c3)⟩;have hg:=bY c0 c1 Cs;obtain rfl:=A4 CG;exact absurd Ca (by simp))
 apply aI<;>intro Cp;refine au ?_;refine au ?_;apply aI<;>intro CD;refine au ?_;refine au ?_
 ·(have Cs:0<=cc/\cc<=10:=⟨bW.1 (Ab c2),bW.1 (Ab c3)⟩;have hg:=bY c0 c1 Cs;obtain rfl:=A4 Cp;have hq:=kh Fn hg (avy ha hb CD) (avl ha hb CD);exact dy hq.1 hq.2)
 refine au ?_
 ·(have Cs:0<=cc/\cc<=10:=⟨bW.1 (Ab c2),bW.1 (Ab c3)⟩;have hg:=bY c0 c1 Cs;obtain rfl:=A4 Cp;have hq:=gP (cc:=4) (.inr ⟨by omega,avr ha hb CD⟩);exact dy hq.1 hq.2)
 apply aI<;>intro C3;refine au ?_;refine au ?_;apply aI<;>intro Dk;refine au ?_;refine au ?_
 ·(have Cs:0<=cc/\cc<=10:=⟨bW.1 (Ab c2),bW.1 (Ab c3)⟩;have hg:=bY c0 c1 Cs;obtain rfl:=A4 C3;have hq:=kh Fn hg (avx ha hb Dk) (avk ha hb Dk);exact dy hq.1 hq.2)
 refine au ?_
 ·(have Cs:0<=cc/\cc<=10:=⟨bW.1 (Ab c2),bW.1 (Ab c3)⟩;have hg:=bY c0 c1 Cs;obtain rfl:=A4 C3;exact absurd Dk (by simp))
 apply aI<;>intro Dg;refine au ?_;refine au ?_;apply aI<;>intro Dh;refine au ?_;refine au ?_
 ·(have Cs:0<=cc/\cc<=10:=⟨bW.1 (Ab c2),bW.1 (Ab c3)⟩;have hg:=bY c0 c1 Cs;obtain rfl:=A4 Dg;have hq:=kh Fn hg (avw ha hb Dh) (avj ha hb Dh);exact dy hq.1 hq.2)
 refine au ?_
 ·(have Cs:0<=cc/\cc<=10:=⟨bW.1 (Ab c2),bW.1 (Ab c3)⟩;have hg:=bY c0 c1 Cs;obtain rfl:=A4 Dg;have hq:=gP (cc:=6) (.inr ⟨by omega,avq ha hb Dh⟩);exact dy hq.1 hq.2)
 apply aI<;>intro DB;refine au ?_;refine au ?_;apply aI<;>intro Dz;refine au ?_;refine au ?_
 ·(have Cs:0<=cc/\cc<=10:=⟨bW.1 (Ab c2),bW.1 (Ab c3)⟩;have hg:=bY c0 c1 Cs;obtain rfl:=A4 DB;have hq:=kh Fn hg (avv ha hb Dz) (avi ha hb Dz);exact dy hq.1 hq.2)
 refine au ?_
 ·(have Cs:0<=cc/\cc<=10:=⟨bW.1 (Ab c2),bW.1 (Ab c3)⟩;have hg:=bY c0 c1 Cs;obtain rfl:=A4 DB;exact absurd Dz (by simp))
 apply aI<;>intro EM;refine au ?_;refine au ?_;apply aI<;>intro FX;refine au ?_;refine au ?_
 ·(have Cs:0<=cc/\cc<=10:=⟨bW.1 (Ab c2),bW.1 (Ab c3)⟩;have hg:=bY c0 c1 Cs;obtain rfl:=A4 EM;have hq:=kh Fn hg (avu ha hb FX) (avh ha hb FX);exact dy hq.1 hq.2)
 refine au ?_
 ·(have Cs:0<=cc/\cc<=10:=⟨bW.1 (Ab c2),bW.1 (Ab c3)⟩;have hg:=bY c0 c1 Cs;obtain rfl:=A4 EM;have hq:=gP (cc:=8) (.inr ⟨by omega,avp ha hb FX⟩);exact dy hq.1 hq.2)
 apply aI<;>intro G3;refine au ?_;refine au ?_;apply aI<;>intro HO;refine au ?_;refine au ?_
 ·(have Cs:0<=cc/\cc<=10:=⟨bW.1 (Ab c2),bW.1 (Ab c3)⟩;have hg:=bY c0 c1 Cs;obtain rfl:=A4 G3;have hq:=kh Fn hg (avt ha hb HO) (avg ha hb HO);exact dy hq.1 hq.2)
 refine au ?_
 ·(have Cs:0<=cc/\cc<=10:=⟨bW.1 (Ab c2),bW.1 (Ab c3)⟩;have hg:=bY c0 c1 Cs;obtain rfl:=A4 G3;exact absurd HO (by simp))
 refine au ?_;refine au ?_
 ·(have Cs:0<=cc/\cc<=10:=⟨bW.1 (Ab c2),bW.1 (Ab c3)⟩;have hg:=bY c0 c1 Cs;obtain rfl:cc=10:=(by have:=CS c4;have h1:=CS c5;have h2:=CS c9;have h3:=CS CG;have h4:=CS Cp;have h5:=CS C3;have h6:=CS Dg;have h7:=CS DB;have h8:=CS EM;have h9:=CS G3;omega);have hq:=kh Fn hg (atw ha hb) (att ha hb);exact dy hq.1 hq.2)
 refine au ?_
 .exact dy (gP (.inl (by unfold jt;rw[c0,c1];rfl))).1 (gP (.inl (by unfold jt;rw[c0,c1];rfl))).2
 refine au ?_
 .exact dy (gP (.inl (by unfold jt;rw[c0];rfl))).1 (gP (.inl (by unfold jt;rw[c0];rfl))).2
structure Sc where
 ul:Int
 uh:Int
 sl:Int
 sh:Int
 v:Int
 m:Int
def Sc.r(a:Sc):Rg:=⟨a.ul,a.uh,a.sl,a.sh⟩
def Sc.k(a:Sc):Kn:=⟨a.v,a.m⟩
def sc(r:Rg)(k:Kn):Sc:=⟨r.ul,r.uh,r.sl,r.sh,k.v,k.m⟩
def Sc.eta_r(a:Sc):(⟨a.ul,a.uh,a.sl,a.sh⟩:Rg)=a.r:=rfl
def Sc.eta_k(a:Sc):(⟨a.v,a.m⟩:Kn)=a.k:=rfl
def Sc.eta_2(r:Rg)(k:Kn):(⟨r.ul,r.uh,r.sl,r.sh,k.v,k.m⟩:Sc)=sc r k:=rfl
def Bf(a:Sc):Bool:=AS a.r&&Bv a.k
def vall:Sc:=sc ball kall
def B8(v:Int):Sc:=sc (HG v) (Eu v)
def A2(a:Sc)(x:Int):Bool:=Bf a&&(AF a.r x&&AX a.k x)
def xM(a:Sc):Bool:=Bf a&&em a.r
def jy(a:Sc):Int:=if Bf a=ZB then aC a.r else 0
def Gf(r:Rg):Kn:=jZ r.ul (kW (bits .xor .u64 r.ul r.uh))
def MU(k:Kn):Rg:=⟨k.v,bits .or .u64 k.v k.m,ball.sl,ball.sh⟩
def LP(a:Sc):Bool:=fh a.r (MU a.k)
def L8(a:Sc):Bool:=eA a.k (Gf (jr a.r (MU a.k)))
def Js(a:Sc):Sc:=sc (jr a.r (MU a.k)) (jp a.k (Gf (jr a.r (MU a.k))))
def Db(a:Sc):Bool:=Bf a&&(LP a&&(L8 a&&(LP (Js a)&&L8 (Js a))))
def Cf(a:Sc):Sc:=if Db a=ZB then Js (Js a)else vall
def Sx{a:Sc}(h0:Bf a=ZB)(h1:LP a=ZB)(h2:L8 a=ZB)(h3:LP (Js a)=ZB)(h4:L8 (Js a)=ZB):Cf a=Js (Js a)/\Db a=ZB:=by
 have h:Db a=ZB:=by unfold Db;rw[h0,h1,h2,h3,h4];rfl
 exact⟨if_pos h,h⟩
def La{a:Sc}(h:Bf a=ZC\/LP a=ZC\/L8 a=ZC\/LP (Js a)=ZC\/L8 (Js a)=ZC):Cf a=vall/\Db a=ZC:=by
 have h:Db a=ZC:=by unfold Db;rcases h with h|h|h|h|h<;>rw[h]<;>simp
 exact⟨if_neg X3,h⟩
def arz(a:Sc):(if Db a=ZB then Cf a else vall)=Cf a:=by
 cases h:Db a
 .unfold Cf;rw[h];simp
 .simp
def jA(a b:Sc):Sc:=if Bf a=ZB/\Bf b=ZB then Cf (sc (js a.r b.r) (jq a.k b.k))else vall
def Gs(x y:Rg):Rg:=⟨if(x.ul==y.ul)=ZC/\decide (y.ul<x.ul)=ZB then 0 else x.ul,if(x.uh==y.uh)=ZC/\decide (x.uh<y.uh)=ZB then 18446744073709551615 else x.uh,
 if(x.sl==y.sl)=ZC/\decide (y.sl<x.sl)=ZB then -9223372036854775808 else x.sl,if(x.sh==y.sh)=ZC/\decide (x.sh<y.sh)=ZB then 9223372036854775807 else x.sh⟩
def DC(a b:Sc):Sc:=if Bf a=ZB/\Bf b=ZB then Cf (sc (Gs a.r b.r) (jq a.k b.k))else vall
def IS(a:Sc):Sc:=Cf (sc (Dd a.r) (B5 a.k 32))
def HD(t:Int):Sc:=Cf (sc ⟨0,t,ball.sl,ball.sh⟩ ⟨0,t⟩)
def K3(r:Rg):Rg:=if r.uh<4294967296 then r else Dd ball
def eR(op:Int)(a b:Sc):Rg:=
 if op=8\/op=12 then Dd ball
 else if op=6\/op=7 then(if xM b=ZB then K3 (D0 op a.r (B8 (Ac .and .u64 (jy b) 31)).r)else Dd ball)
 else K3 (D0 op a.r b.r)
def PR(op w:Int)(a b:Sc):Sc:=sc (eR op (IS a) (IS b)) (Jj op w (IS a).k (IS b).k)
def Hx(op w:Int)(a b:Sc):Sc:=if Bs op w=ZB/\Bf a=ZB/\Bf b=ZB then(if w=64 then Cf (sc (D0 op a.r b.r) (Jj op 64 a.k b.k))else if Db (PR op w a b)=ZB then Cf (PR op w a b)else HD 4294967295)else vall
def VH(cc:Int)(a b:Sc):Kn:=if cc=0 then jp a.k b.k else a.k
def T9(cc:Int)(a b:Sc):Sc:=sc (C7 cc a.r b.r) (VH cc a b)
def DI(cc:Int)(a b:Sc):Bool:=Bf a&&(Bf b&&(CN cc a.r b.r&&((if cc=0 then eA a.k b.k else ZB)&&Db (T9 cc a b))))
def Ej(cc:Int)(a b:Sc):Sc:=if DI cc a b=ZB then Cf (T9 cc a b)else vall
def Re{a b:Sc}(h0:Bf a=ZB)(h1:Bf b=ZB)(h2:CN cc a.r b.r=ZB)(h3:(cc==0)=ZB)(h4:eA a.k b.k=ZB):
  Ej cc a b=Cf (sc (C7 cc a.r b.r) (jp a.k b.k))/\DI cc a b=Db (sc (C7 cc a.r b.r) (jp a.k b.k)):=by
 obtain rfl:=A4 h3;have e:DI 0 a b=Db (sc (C7 0 a.r b.r) (jp a.k b.k)):=by unfold DI;rw[h0,h1,h2,if_pos rfl,h4];rfl
 refine⟨?_,e⟩;unfold Ej;rw[e];exact arz _
def Q4{a b:Sc}(h0:Bf a=ZB)(h1:Bf b=ZB)(h2:CN cc a.r b.r=ZB)(h3:(cc==0)=ZC):
  Ej cc a b=Cf (sc (C7 cc a.r b.r) a.k)/\DI cc a b=Db (sc (C7 cc a.r b.r) a.k):=by
 have h3:=CS h3;have e:DI cc a b=Db (sc (C7 cc a.r b.r) a.k):=by unfold DI T9 VH;rw[h0,h1,h2,if_neg h3,if_neg h3];rfl
 refine⟨?_,e⟩;unfold Ej;rw[e];unfold T9 VH;rw[if_neg h3];exact arz _
def L9{a b:Sc}(h:Bf a=ZC\/Bf b=ZC\/CN cc a.r b.r=ZC\/((cc==0)=ZB/\eA a.k b.k=ZC)):Ej cc a b=vall/\DI cc a b=ZC:=by
 have h:DI cc a b=ZC:=by
  unfold DI;rcases h with h|h|h|⟨h,h'⟩
  .exact X3
  .exact X3
  .exact X3
  .rw[if_pos (A4 h),h'];simp
 exact⟨if_neg X3,h⟩
def DY(cc l:Int):Bool:=(decide (0<=cc)&&decide (cc<=10))&&fB l
def apR{b:Bool}(h:((if b=ZB then(0:Int)else 2)==0)=ZB):b=ZB:=by cases b<;>simp_all
def asu{b:Bool}(h:((if b=ZB then(0:Int)else 2)==0)=ZC):b=ZC:=by cases b<;>simp_all
def dV{r s:Kn}(h:r=s):[Dt.z r.v,.z r.m]=[Dt.z s.v,.z s.m]:=by rw[h]
def asI{r:Rg}(hr:r.wf):(⟨bits .andNot .u64 r.ul (Ac .sub .u64 (Ac .shl .u64 1 (Ac .sub .i64 64 (64-(ax (bits .xor .u64 r.ul r.uh).toNat:Int)))) 1),Ac .sub .u64 (Ac .shl .u64 1 (Ac .sub .i64 64 (64-(ax (bits .xor .u64 r.ul r.uh).toNat:Int)))) 1⟩:Kn)=Gf r:=by
 have hx:=rh r.ul r.uh;have hb:ax (bits .xor .u64 r.ul r.uh).toNat<=64:=gz Fn;have e:Ac .sub .i64 64 (64-(ax (bits .xor .u64 r.ul r.uh).toNat:Int))=(ax (bits .xor .u64 r.ul r.uh).toNat:Int):=by show IntKind.i64.wrap _=_;rw[aP];omega
 rw[e,zj hx.1 hx.2];rfl
def asJ{r:Rg}(hr:r.wf)(h:decide (0<64-(ax (bits .xor .u64 r.ul r.uh).toNat:Int))=ZC):(⟨bits .andNot .u64 r.ul 18446744073709551615,18446744073709551615⟩:Kn)=Gf r:=by
 have h:=Ab h;have hx:=rh r.ul r.uh;have hb:ax (bits .xor .u64 r.ul r.uh).toNat<=64:=gz Fn;have e:kW (bits .xor .u64 r.ul r.uh)=18446744073709551615:=by unfold kW;rw[show ax (bits .xor .u64 r.ul r.uh).toNat=64 by omega];rfl
 unfold Gf jZ;rw[e]
section
variable {op l:Int}{a b:Kn}
def asG(h:dX op l a b=ZC):kall=Jj op l a b:=by unfold Jj;rw[if_neg X3]
def kd_a(h:Bv a=ZC):dX op l a b=ZC:=by simp[dX,h]
def kd_b(h:Bv b=ZC):dX op l a b=ZC:=by simp[dX,h]
def auW(h:decide (op<0)=ZB):dX op l a b=ZC:=by have:=Ah h;simp[dX,eY (show¬0<=op by omega)]
def auX(h:decide (12<op)=ZB):dX op l a b=ZC:=by have:=Ah h;simp[dX,eY (show¬op<=12 by omega)]
def kd_w(h:(l==32)=ZC)(h':(l==64)=ZC):dX op l a b=ZC:=by simp[dX,fB,h,h']
def asF(h0:Bv a=ZB)(h1:Bv b=ZB)(h2:decide (op<0)=ZC)(h3:decide (12<op)=ZC)(h4:fB l=ZB):dX op l a b=ZB/\Bs op l=ZB:=by have h2:=Ab h2;have h3:=Ab h3;simp[dX,Bs,h0,h1,h4,dg (show 0<=op by omega),dg (show op<=12 by omega)]
def auV(h:(!dX op l a b)=ZC):(dX op l a b=ZB/\Bs op l=ZB)/\(0<=op/\op<=12)/\(l=32\/l=64):=by have h:dX op l a b=ZB:=Xx;have h2:=h;unfold dX at h2;simp only[ne,aB]at h2;obtain⟨_,_,h3,h4,h5⟩:=h2;refine⟨⟨h,by unfold Bs;rw[dg h3,dg h4,h5];rfl⟩,⟨h3,h4⟩,?_⟩;unfold fB at h5;simpa using h5
def asE(hg:dX op l a b=ZB/\Bs op l=ZB)(h:(bits .or .u64 (B5 a l).m (B5 b l).m==0)=ZB):Eu (if Bs op l=ZB then BD op l (B5 a l).v (B5 b l).v else 0)=Jj op l a b:=by unfold Jj;rw[if_pos hg.1,if_pos h,if_pos hg.2]
def kV{X:Kn}(hg:dX op l a b=ZB/\Bs op l=ZB)(h:(bits .or .u64 (B5 a l).m (B5 b l).m==0)=ZC)(e:Dl op l (B5 a l) (B5 b l)=X):B5 X l=Jj op l a b:=by unfold Jj;rw[if_pos hg.1,if_neg X3,e]
def ap5(h:op=6\/op=7\/op=12)(c:(bits .and .u64 b.m (l-1)==0)=ZB):Dl op l a b=Uj op l a b:=by unfold Dl;rcases h with rfl|rfl|rfl<;>simp[c]
def ap6(h:op=6\/op=7\/op=12)(c:(bits .and .u64 b.m (l-1)==0)=ZC):Dl op l a b=kall:=by unfold Dl;rcases h with rfl|rfl|rfl<;>simp[c]
end
def Kn.eta(a:Kn):(⟨a.v,a.m⟩:Kn)=a:=rfl
def rd_Kn(k:Kn->List Dt->List Dt):List Dt->List Dt
 |.z z0::.z z1::r=>k ⟨z0,z1⟩ r
 |_=>[]
def Kn.ok(a:Kn):Prop:=Ae .u64 a.v=ZB/\Ae .u64 a.m=ZB
def kKn:List CK:=[.int .u64,.int .u64]
def v_Kn(t:List VK):List VK:=.int .u64::.int .u64::t
def d_Kn(a:Kn)(t:List Dt):List Dt:=.z a.v::.z a.m::t
def cG{p:List Dt->Prop}(h:∀a:Kn,Kn.ok a->aO l fun r=>p (d_Kn a r)):aO (v_Kn l) p:=fun x0 C8 x1 Du=>h ⟨x0,x1⟩ ⟨C8,Du⟩
def AM:=aI @v_Kn.eq_1 (aI @d_Kn.eq_1 (aI @rd_Kn.eq_1 (@kKn.eq_1)))
def Sc.eta(a:Sc):(⟨a.ul,a.uh,a.sl,a.sh,a.v,a.m⟩:Sc)=a:=rfl
def rd_Sc(k:Sc->List Dt->List Dt):List Dt->List Dt
 |.z z0::.z z1::.z z2::.z z3::.z z4::.z z5::r=>k ⟨z0,z1,z2,z3,z4,z5⟩ r
 |_=>[]
def Sc.ok(a:Sc):Prop:=Ae .u64 a.ul=ZB/\Ae .u64 a.uh=ZB/\Ae .i64 a.sl=ZB/\Ae .i64 a.sh=ZB/\Ae .u64 a.v=ZB/\Ae .u64 a.m=ZB
def kSc:List CK:=[.int .u64,.int .u64,.int .i64,.int .i64,.int .u64,.int .u64]
def v_Sc(t:List VK):List VK:=.int .u64::.int .u64::.int .i64::.int .i64::.int .u64::.int .u64::t
def d_Sc(a:Sc)(t:List Dt):List Dt:=.z a.ul::.z a.uh::.z a.sl::.z a.sh::.z a.v::.z a.m::t
def dt{p:List Dt->Prop}(h:∀a:Sc,Sc.ok a->aO l fun r=>p (d_Sc a r)):aO (v_Sc l) p:=fun x0 C8 x1 Du x2 Gd x3 Gj x4 Mj x5 Kx=>h ⟨x0,x1,x2,x3,x4,x5⟩ ⟨C8,Du,Gd,Gj,Mj,Kx⟩
def AO:=aI @v_Sc.eq_1 (aI @d_Sc.eq_1 (aI @rd_Sc.eq_1 (@kSc.eq_1)))
def eP:=aI Kn.eta (aI Pi.eta (aI Pu.eta (aI Rg.eta (aI Sc.eta (aI Sc.eta_r (aI Sc.eta_k (Sc.eta_2)))))))
def cA(k:q2)(h:p->q=q2:=by intro e;(try simp only[e,eP,-eq_self]);rfl):p->q:=fun e=>(h e).symm▸k
def aoC:List (Nat×TI):=[(2,CB),
 (39,eX),
 (46,gZ),
 (48,jl),
 (50,Qg)]
def cu:∀t i,(t,i)∈aoC->TIok ZF t i:=bi B1 B1 (by kernel_rfl)
def c_kmay:Cd:=⟨118,[.agg kKn],[.one .bool],rd_Kn fun a _=>[.z (AE (Bv a))],T0⟩
def af4:Tr:=
(.u (.j (.eq (.f .and .u64 (.w 0) (.w 1)) (.p 0)) .nil))
def rQ:c_kmay.Ok ZF:=
 AT af4 (v_Kn []) cu AI Tryz.func118<|cG fun a ha hp U g=>by
 simp only[AM,AB,ZD]at g;simp only[af4,c_kmay,AM,Ai,ZH,ZD,-eq_self,Kn.eta,Sc.eta_r,Sc.eta_k,Sc.eta_2,g]
 .rfl
def c_kall:Cd:=⟨116,[],[.agg kKn],fun _=>d_Kn kall [],T0⟩
def af9:Tr:=
(.u (.cons (.p 0) (.cons (.p 18446744073709551615) .nil)))
def wV:c_kall.Ok ZF:=
 AT af9 [] cu AI Tryz.func116<|fun hp U g=>by
 simp only[af9,c_kall,AM,Ai,ZH,ZD,-eq_self,Sc.eta_r,Sc.eta_k,Sc.eta_2]
 .rfl
def c_kone:Cd:=⟨70,[.one (.int .u64)],[.agg kKn],rdZ fun v _=>d_Kn (Eu v) [],T0⟩
def af2:Tr:=
(.u (.cons (.w 0) (.cons (.p 0) .nil)))
def ahF:c_kone.Ok ZF:=
 AT af2 [.int .u64] cu AI Tryz.func70<|fun v hv hp U g=>by
 simp only[AM,AB,ZD]at g;simp only[af2,c_kone,AM,Ai,ZH,ZD,-eq_self,Sc.eta_r,Sc.eta_k,Sc.eta_2,g]
 .rfl
def c_khas:Cd:=⟨101,[.agg kKn,.one (.int .u64)],[.one .bool],rd_Kn fun a=>rdZ fun v _=>[.z (AE (AX a v))],T0⟩
def af5:Tr:=
(.call 0 [.bool] (.vs 0 2 .nil) 3
(.br (.s 3)
(.u (.j (.eq (.f .andNot .u64 (.w 2) (.w 1)) (.w 0)) .nil))
zlF))
def as9:c_khas.Ok ZF:=
 AT af5 (v_Kn [.int .u64]) cu (Am rQ AI) Tryz.func101<|cG fun a ha=>fun v hv hp U g=>by
 simp only[AM,AB,ZD]at g;simp only[af5,c_kmay,c_khas,AM,Ai,ZH,ZD,-eq_self,eP,g];refine cA ?_;apply aI<;>intro c0
 .exact Yp
 .exact Yp
def c_kmask:Cd:=⟨130,[.one (.int .u64),.one (.int .u64)],[.agg kKn],rdZ fun v=>rdZ fun m _=>d_Kn (jZ v m) [],T0⟩
def aaR:Tr:=
(.u (.cons (.f .andNot .u64 (.w 0) (.w 1)) (.cons (.w 1) .nil)))
def nI:c_kmask.Ok ZF:=
 AT aaR [.int .u64,.int .u64] cu AI Tryz.func130<|fun v hv m hm hp U g=>by
 simp only[AM,AB,ZD]at g;simp only[aaR,c_kmask,AM,Ai,ZH,ZD,-eq_self,Sc.eta_r,Sc.eta_k,Sc.eta_2,g]
 .rfl
def c_kjoin:Cd:=⟨87,[.agg kKn,.agg kKn],[.agg kKn],rd_Kn fun a=>rd_Kn fun b _=>d_Kn (jq a b) [],T0⟩
def aaS:Tr:=
(.call 0 [.bool] (.vs 0 2 .nil) 4
(.br (.s 4)
(.call 0 [.bool] (.vs 2 2 .nil) 5
(.br (.s 5)
(.call 2 (kKn) (.cons (.w 0) (.cons (.f .or .u64 (.f .or .u64 (.w 1) (.w 3)) (.f .xor .u64 (.w 0) (.w 2))) .nil)) 6
(.u (.vs 6 2 .nil)))
(.call 1 (kKn) .nil 6
(.u (.vs 6 2 .nil)))))
(.call 1 (kKn) .nil 5
(.u (.vs 5 2 .nil)))))
def ahH:c_kjoin.Ok ZF:=
 AT aaS (v_Kn (v_Kn [])) cu (Am rQ<|Am wV<|Am nI AI) Tryz.func87<|cG fun a ha=>cG fun b hb hp U g=>by
 simp only[AM,AB,ZD]at g;simp only[aaS,c_kmay,c_kall,c_kmask,c_kjoin,AM,Ai,ZH,ZD,-eq_self,eP,g];refine cA ?_;apply aI<;>intro c0;refine cA ?_;apply aI<;>intro c1;refine cA ?_
 ·(unfold jq;simp_all [Ac])
 refine cA ?_
 ·(unfold jq;simp_all [Ac])
 refine cA ?_
 ·(unfold jq;simp_all [Ac])
def c_kmeet:Cd:=⟨83,[.agg kKn,.agg kKn],[.agg kKn,.one .bool],rd_Kn fun a=>rd_Kn fun b _=>d_Kn (jp a b) [.z (AE (eA a b))],T0⟩
def an7:Tr:=(.call 1 (kKn) .nil 6
(.u (.vs 6 2 (.j (.tt ZC) .nil))))
def aaQ:Tr:=
(.call 0 [.bool] (.vs 0 2 .nil) 4
(.br (.s 4)
(.call 0 [.bool] (.vs 2 2 .nil) 5
(.br (.s 5)
(.br (.eq (.f .andNot .u64 (.f .xor .u64 (.w 0) (.w 2)) (.f .or .u64 (.w 1) (.w 3))) (.p 0))
(.call 2 (kKn) (.cons (.f .or .u64 (.w 0) (.w 2)) (.cons (.f .and .u64 (.w 1) (.w 3)) .nil)) 6
(.u (.vs 6 2 (.j (.tt ZB) .nil))))
an7)
an7))
(.call 1 (kKn) .nil 5
(.u (.vs 5 2 (.j (.tt ZC) .nil))))))
def ahG:c_kmeet.Ok ZF:=
 AT aaQ (v_Kn (v_Kn [])) cu (Am rQ<|Am wV<|Am nI AI) Tryz.func83<|cG fun a ha=>cG fun b hb hp U g=>by
 simp only[AM,AB,ZD]at g;simp only[aaQ,an7,c_kmay,c_kall,c_kmask,c_kmeet,AM,Ai,ZH,ZD,-eq_self,eP,g];refine cA ?_
 .repeat' first|apply aI<;>intro c|refine cA ?_|exact Ya
def c_bcut:Cd:=⟨141,[.one (.int .u64),.one (.int .i8)],[.one (.int .u64)],rdZ fun x=>rdZ fun l _=>[.z (Ap x l)],T0⟩
def ao7(x:Int)(hx:Ae .u64 x=ZB)(l:Int)(hl:Ae .i8 l=ZB):(∀w,Calls ZF 141 #[.int .u64 x,.int .i8 l] w fun e w'=>e=.returned (.int .u64 (Ap x l))/\Ext w w')/\fP (.int .u64 (Ap x l))=ZB:=by have g:=cU hx;have hz:=pn (de x l g.1 g.2);exact⟨fun W=>(aiy x l W g.1 g.2).mono (by rintro e w' ⟨rfl,rfl⟩;exact⟨rfl,Ext.refl _⟩),hz⟩
def atn:c_bcut.Ok ZF:=fun hF hP=>by
 refine SmOk.pure (s:=c_bcut.m _) hF rfl rfl fun xs vals w h=> ?_;obtain⟨_,_,_,rfl,⟨x0,rfl,rfl,C8⟩,h⟩:=h;obtain⟨_,_,_,rfl,⟨x1,rfl,rfl,Du⟩,h⟩:=h;obtain⟨rfl,rfl⟩:=h;have q:=ao7 x0 C8 x1 Du;refine⟨_,.inr ⟨dD Tryz.func141 (by kernel_rfl) (by kernel_rfl) _ w,q.1 w⟩,?_,fun U v0 nid j he=> ?_⟩
 .have q2:=q.2;simp[fP,fc,fg]at q2;simp[c_bcut,Cd.m,tp,rdZ,rdB,rdL,ZR,ZU,Sh.cks,YR,ZO,ZQ,b2i_one,gE,q2]
 .simp only[c_bcut,Cd.m,tp,rdZ,rdB,rdL,ZR,ZU,Sh.cks,YR,ZO,ZQ,b2i_one,eqs,dI,dB,cy,lY,bJ,ZS,ZD,and_true]at he;simp[c_bcut,Cd.m,tp,rdZ,rdB,rdL,ZR,ZU,Sh.cks,YR,ZO,ZQ,b2i_one,fY,bH,aE,V.den,C.den,Af,BL,cm,E.I,E.B,he]
def c_kcut:Cd:=⟨147,[.agg kKn,.one (.int .i8)],[.agg kKn],rd_Kn fun a=>rdZ fun l _=>d_Kn (B5 a l) [],T0⟩
def af7:Tr:=
(.call 0 [.bool] (.vs 0 2 .nil) 3
(.br (.s 3)
(.call 2 [.int .u64] (.cons (.w 0) (.cons (.w 2) .nil)) 4
(.call 2 [.int .u64] (.vs 1 2 .nil) 5
(.u (.vs 4 2 .nil))))
(.call 1 (kKn) .nil 4
(.u (.vs 4 2 .nil)))))
def amQ:c_kcut.Ok ZF:=
 AT af7 (v_Kn [.int .i8]) cu (Am rQ<|Am wV<|Am atn AI) Tryz.func147<|cG fun a ha=>fun l hl hp U g=>by
 simp only[AM,AB,ZD]at g;simp only[af7,c_kmay,c_kall,c_bcut,c_kcut,AM,Ai,ZH,ZD,-eq_self,eP,g];refine cA ?_;apply aI<;>intro c0;refine cA ?_;refine cA ?_
 ·(unfold B5;simp_all)
 refine cA ?_
 ·(unfold B5;simp_all)
def c_vmay:Cd:=⟨81,[.agg kSc],[.one .bool],rd_Sc fun a _=>[.z (AE (Bf a))],T0⟩
def afA:Tr:=
(.call 0 [.bool] (.vs 0 4 .nil) 6
(.br (.s 6)
(.call 1 [.bool] (.vs 4 2 .nil) 7
(.u (.j (.s 7) .nil)))
zlF))
def og:c_vmay.Ok ZF:=
 AT afA (v_Sc []) cu (Am wU<|Am rQ AI) Tryz.func81<|dt fun a ha hp U g=>by
 simp only[AO,AJ,AM,AB,ZD]at g;simp only[afA,c_may,c_kmay,c_vmay,AO,AJ,AM,Ai,ZH,ZD,-eq_self,eP,g];refine cA ?_;apply aI<;>intro c0;refine cA ?_
 .exact YL
 .exact YL
def c_vall:Cd:=⟨80,[],[.agg kSc],fun _=>d_Sc vall [],T0⟩
def afI:Tr:=
(.call 0 (kRg) .nil 0
(.call 1 (kKn) .nil 4
(.u (.vs 0 6 .nil))))
def rP:c_vall.Ok ZF:=
 AT afI [] cu (Am nJ<|Am wV AI) Tryz.func80<|fun hp U g=>by
 simp only[afI,c_all,c_kall,c_vall,AO,AJ,AM,Ai,ZH,ZD,-eq_self,eP];refine cA ?_;refine cA ?_
 .rfl
def c_vone:Cd:=⟨30,[.one (.int .u64)],[.agg kSc],rdZ fun v _=>d_Sc (B8 v) [],T0⟩
def afy:Tr:=
(.call 0 (kRg) (.cons (.w 0) .nil) 1
(.call 1 (kKn) (.cons (.w 0) .nil) 5
(.u (.vs 1 6 .nil))))
def UJ:c_vone.Ok ZF:=
 AT afy [.int .u64] cu (Am au4<|Am ahF AI) Tryz.func30<|fun v hv hp U g=>by
 simp only[AO,AJ,AM,AB,ZD]at g;simp only[afy,c_one,c_kone,c_vone,AO,AJ,AM,Ai,ZH,ZD,-eq_self,eP,g];refine cA ?_;refine cA ?_
 .rfl
def c_vhas:Cd:=⟨64,[.agg kSc,.one (.int .u64)],[.one .bool],rd_Sc fun a=>rdZ fun v _=>[.z (AE (A2 a v))],T0⟩
def afC:Tr:=
(.call 0 [.bool] (.vs 0 6 .nil) 7
(.br (.s 7)
(.call 1 [.bool] (.vs 0 4 (.cons (.w 6) .nil)) 8
(.br (.s 8)
(.call 2 [.bool] (.vs 4 3 .nil) 9
(.u (.j (.s 9) .nil)))
zlF))
zlF))
def asQ:c_vhas.Ok ZF:=
 AT afC (v_Sc [.int .u64]) cu (Am og<|Am atk<|Am as9 AI) Tryz.func64<|dt fun a ha=>fun v hv hp U g=>by
 simp only[AO,AJ,AM,AB,ZD]at g;simp only[afC,c_vmay,c_has,c_khas,c_vhas,AO,AJ,AM,Ai,ZH,ZD,-eq_self,eP,g];refine cA ?_
 .repeat' first|apply aI<;>intro c|refine cA ?_|exact Yb
def c_vsingle:Cd:=⟨156,[.agg kSc],[.one (.int .u64),.one .bool],rd_Sc fun a _=>[.z (jy a),.z (AE (xM a))],T0⟩
def rA:Tr:=
(.call 0 [.bool] (.vs 0 6 .nil) 6
(.br (.s 6)
(.call 1 [.int .u64,.bool] (.vs 0 4 .nil) 7
(.u (.cons (.w 7) (.j (.s 8) .nil))))
(.u (.cons (.p 0) (.j (.tt ZC) .nil)))))
def ahB:c_vsingle.Ok ZF:=
 AT rA (v_Sc []) cu (Am og<|Am uo AI) Tryz.func156<|dt fun a ha hp U g=>by
 simp only[AO,AJ,AB,ZD]at g;simp only[rA,c_vmay,c_single,c_vsingle,AO,AJ,Ai,ZH,ZD,-eq_self,eP,g];refine cA ?_;apply aI<;>intro c0;refine cA ?_
 ·(unfold jy xM;simp_all)
 ·(unfold jy xM;simp_all)
def Kn.wf_of{a:Kn}(h:a.ok):a.wf:=⟨cU h.1,cU h.2⟩
structure Sc.wf(a:Sc):Prop where
 r:a.r.wf
 k:a.k.wf
def Sc.wf_of{a:Sc}(h:a.ok):a.wf:=by obtain⟨h1,h2,h3,h4,h5,h6⟩:=h;exact⟨⟨cU h1,cU h2,iP h3,iP h4⟩,⟨cU h5,cU h6⟩⟩
structure Ty where
 k:Int
 ul:Int
 uh:Int
 sl:Int
 sh:Int
 v:Int
 m:Int
 lo:Int
 hi:Int
def Ty.s(t:Ty):Sc:=⟨t.ul,t.uh,t.sl,t.sh,t.v,t.m⟩
def ty(k:Int)(s:Sc)(lo hi:Int):Ty:=⟨k,s.ul,s.uh,s.sl,s.sh,s.v,s.m,lo,hi⟩
def Ty.eta_s(t:Ty):(⟨t.ul,t.uh,t.sl,t.sh,t.v,t.m⟩:Sc)=t.s:=rfl
structure Sta where
 r0:Ty
 r1:Ty
 r2:Ty
 r3:Ty
 r4:Ty
 r5:Ty
 r6:Ty
 r7:Ty
 r8:Ty
 r9:Ty
 r10:Ty
 s0:Ty
 s1:Ty
 s2:Ty
 s3:Ty
 s4:Ty
 s5:Ty
 s6:Ty
 s7:Ty
def tnil:Ty:=⟨0,0,0,0,0,0,0,0,0⟩
def tscal:Ty:=ty 1 vall 0 0
def cg(t:Ty):Bool:=(t.ul==0)&&((t.uh==0)&&((t.sl==0)&&((t.sh==0)&&((t.v==0)&&(t.m==0)))))
def Bg(t:Ty):Bool:=
 if t.k=0 then cg t&&((t.lo==0)&&(t.hi==0))
 else if t.k=1 then Bf t.s&&((t.lo==0)&&(t.hi==0))
 else if t.k=2\/t.k=3 then cg t&&(decide (t.lo<=t.hi)&&(decide (-1048576<=t.lo)&&decide (t.hi<=1048576)))
 else ZC
def tset(t:Ty):Bool:=Bg t &&!(t.k==0)
def Az(s:Sta):Bool:=
 Bg s.r0&&(Bg s.r1&&(Bg s.r2&&(Bg s.r3&&(Bg s.r4&&(Bg s.r5&&(Bg s.r6&&(Bg s.r7&&(Bg s.r8&&(Bg s.r9&&(Bg s.r10&&
 (tset s.s0&&(tset s.s1&&(tset s.s2&&(tset s.s3&&(tset s.s4&&(tset s.s5&&(tset s.s6&&tset s.s7)))))))))))))))))
def bQ(t:Ty):Int:=if t.k=2 then 2097152 else 3145728
def D9(t:Ty)(v:Int):Int:=ZG .i64 (ZG .u64 (v-bQ t))
def aQ(t:Ty)(v:Int):Bool:=Bg t&&(if t.k=0 then ZB else if t.k=1 then A2 t.s v else(decide (t.lo<=D9 t v)&&decide (D9 t v<=t.hi)))
def fS{t:Ty}(h:Bg t=ZB):t.k=0\/t.k=1\/t.k=2\/t.k=3:=by
 unfold Bg at h;split at h
 .exact .inl ‹_›
 split at h
 .exact .inr (.inl ‹_›)
 split at h
 next h2=>exact .inr (.inr h2)
 .exact Xo
def aab{t:Ty}(h:Bg t=ZC):aQ t v=ZC:=by unfold aQ;rw[h];rfl
def xV{t:Ty}(h:Bg t=ZB)(hk:t.k=0):aQ t v=ZB:=by unfold aQ;rw[h,if_pos hk];rfl
def nb{t:Ty}(h:Bg t=ZB)(hk:t.k=1):aQ t v=A2 t.s v:=by unfold aQ;rw[h,if_neg Fn,if_pos hk];rfl
def te{t:Ty}(h:Bg t=ZB)(hk:t.k=2):aQ t v=(decide (t.lo<=ZG .i64 (ZG .u64 (v-2097152)))&&decide (ZG .i64 (ZG .u64 (v-2097152))<=t.hi)):=by unfold aQ D9 bQ;rw[h,if_neg Fn,if_neg Fn,if_pos hk];rfl
def td{t:Ty}(h:Bg t=ZB)(hk:t.k=3):aQ t v=(decide (t.lo<=ZG .i64 (ZG .u64 (v-3145728)))&&decide (ZG .i64 (ZG .u64 (v-3145728))<=t.hi)):=by unfold aQ D9 bQ;rw[h,if_neg Fn,if_neg Fn,if_neg Fn];rfl
def uj{b c:Int}(h:decide (b<a)=ZB):(decide (a<=b)&&decide (b<=c))=ZC:=by have:=Ah h;simp;omega
def oI{b c:Int}(h:decide (b<a)=ZC):(decide (a<=b)&&decide (b<=c)) = !decide (c<b):=by have:=Ab h;rw[aj];simp;omega
def jH:Sta:=⟨tnil,⟨2,0,0,0,0,0,0,0,0⟩,tnil,tnil,tnil,tnil,tnil,tnil,tnil,tnil,⟨3,0,0,0,0,0,0,64,64⟩,
 ty 1 (B8 0) 0 0,ty 1 (B8 0) 0 0,ty 1 (B8 0) 0 0,ty 1 (B8 0) 0 0,ty 1 (B8 0) 0 0,ty 1 (B8 0) 0 0,ty 1 (B8 0) 0 0,ty 1 (B8 0) 0 0⟩
def Ht(w:Bool)(a b:Ty):Int:=if w=ZB/\min a.lo b.lo<a.lo then -1048576 else min a.lo b.lo
def Hq(w:Bool)(a b:Ty):Int:=if w=ZB/\a.hi<max a.hi b.hi then 1048576 else max a.hi b.hi
def ee(w t:Bool)(a b:Ty):Ty:=
 if a.k=0\/b.k=0 then tnil
 else if a.k≠b.k then tscal
 else if a.k=1 then ty 1 (if w=ZB then DC a.s b.s else jA a.s b.s) 0 0
 else⟨a.k,0,0,0,0,0,0,Ht t a b,Hq t a b⟩
def cK(w:Bool)(a b:Ty):Ty:=ee w w a b
def Mc(w:Bool)(a b:Sta):Sta:=⟨cK w a.r0 b.r0,cK w a.r1 b.r1,cK w a.r2 b.r2,cK w a.r3 b.r3,cK w a.r4 b.r4,cK w a.r5 b.r5,cK w a.r6 b.r6,cK w a.r7 b.r7,cK w a.r8 b.r8,cK w a.r9 b.r9,cK w a.r10 b.r10,
 cK w a.s0 b.s0,cK w a.s1 b.s1,cK w a.s2 b.s2,cK w a.s3 b.s3,cK w a.s4 b.s4,cK w a.s5 b.s5,cK w a.s6 b.s6,cK w a.s7 b.s7⟩
def Jz:Sta:=⟨tnil,tnil,tnil,tnil,tnil,tnil,tnil,tnil,tnil,tnil,tnil,tnil,tnil,tnil,tnil,tnil,tnil,tnil,tnil⟩
def iJ(w:Bool)(a b:Sta):Sta:=if Az a=ZB/\Az b=ZB then Mc w a b else Jz
def Fa(a b:Sta):Int:=if Az a=ZB/\Az b=ZB then 0 else 2
def Nh{w:Bool}{a b:Ty}(h:(a.k==0)=ZB):ee w t a b=tnil:=by unfold ee;rw[if_pos (.inl Xx)]
def NT{w:Bool}{a b:Ty}(h:(b.k==0)=ZB):ee w t a b=tnil:=by unfold ee;rw[if_pos (.inr Xx)]
def WK{w:Bool}{a b:Ty}(h0:(a.k==0)=ZC)(h1:(b.k==0)=ZC)(h2:(a.k==b.k)=ZC):ee w t a b=tscal:=by unfold ee;rw[if_neg (by simp at h0 h1;simp[h0,h1]),if_pos XR]
def OM{w:Bool}{a b:Ty}(h0:(a.k==0)=ZC)(h1:(b.k==0)=ZC)(h2:(a.k==b.k)=ZB)(h3:(a.k==1)=ZB):ee w t a b=ty a.k (if w=ZB then DC a.s b.s else jA a.s b.s) 0 0:=by
 have e:a.k=1:=by simpa using h3
 unfold ee;rw[if_neg (by simp at h0 h1;simp[h0,h1]),if_neg XR,if_pos e,e]
def FH{w:Bool}{a b:Ty}(h0:(a.k==0)=ZC)(h1:(b.k==0)=ZC)(h2:(a.k==b.k)=ZB)(h3:(a.k==1)=ZC):ee w t a b=⟨a.k,0,0,0,0,0,0,Ht t a b,Hq t a b⟩:=by unfold ee;rw[if_neg (by simp at h0 h1;simp[h0,h1]),if_neg XR,if_neg (by simpa using h3)]
def VM{a b:Ty}(h:t=ZB)(h2:decide (min a.lo b.lo<a.lo)=ZB):Ht t a b = -1048576:=by unfold Ht;rw[if_pos ⟨h,Ah h2⟩]
def Vc{a b:Ty}(h2:decide (min a.lo b.lo<a.lo)=ZC):Ht t a b=min a.lo b.lo:=by unfold Ht;rw[if_neg (fun q=>Ab h2 q.2)]
def arF{a b:Ty}(h:t=ZC):Ht t a b=min a.lo b.lo:=by unfold Ht;rw[if_neg (fun q=>by rw[h]at q;cases q.1)]
def Wd{a b:Ty}(h:t=ZB)(h2:decide (a.hi<max a.hi b.hi)=ZB):Hq t a b=1048576:=by unfold Hq;rw[if_pos ⟨h,Ah h2⟩]
def TQ{a b:Ty}(h2:decide (a.hi<max a.hi b.hi)=ZC):Hq t a b=max a.hi b.hi:=by unfold Hq;rw[if_neg (fun q=>Ab h2 q.2)]
def arK{a b:Ty}(h:t=ZC):Hq t a b=max a.hi b.hi:=by unfold Hq;rw[if_neg (fun q=>by rw[h]at q;cases q.1)]
def nW{w:Bool}{a b:Sta}(h:Az a=ZB)(h2:Az b=ZB):iJ w a b=Mc w a b/\Fa a b=0:=⟨if_pos ⟨h,h2⟩,if_pos ⟨h,h2⟩⟩
def vD{w:Bool}{a b:Sta}(h:Az a=ZC\/Az b=ZC):iJ w a b=Jz/\Fa a b=2:=by
 have:¬(Az a=ZB/\Az b=ZB):=by rcases h with h|h<;>simp[h]
 exact⟨if_neg this,if_neg this⟩
def H3(b:Ty):Bool:=(b.k==tscal.k)&&((b.ul==tscal.ul)&&((b.uh==tscal.uh)&&((b.sl==tscal.sl)&&((b.sh==tscal.sh)&&((b.v==tscal.v)&&((b.m==tscal.m)&&((b.lo==tscal.lo)&&(b.hi==tscal.hi))))))))
def LB(a b:Ty):Bool:=
 if(b.k==0)=ZB then ZB else if(a.k==0)=ZB then ZC else if H3 b=ZB then ZB else if(a.k==b.k)=ZC then ZC
 else if(a.k==1)=ZB then(NR a.s.r b.s.r&&Ky a.s.k b.s.k)else(decide (b.lo<=a.lo)&&decide (a.hi<=b.hi))
def auB{a b:Ty}(h:(b.k==0)=ZB):LB a b=ZB:=by unfold LB;rw[if_pos h]
def arC{a b:Ty}(h:(b.k==0)=ZC)(h1:(a.k==0)=ZC)(h2:H3 b=ZB):LB a b=ZB:=by unfold LB;rw[if_neg X3,if_neg (by rw[h1];simp),if_pos h2]
def auA{a b:Ty}(h:(b.k==0)=ZC)(h1:(a.k==0)=ZC)(h2:H3 b=ZC)(h3:(a.k==b.k)=ZB)(h4:(a.k==1)=ZB):LB a b=(NR a.s.r b.s.r&&Ky a.s.k b.s.k):=by unfold LB;rw[if_neg X3,if_neg (by rw[h1];simp),if_neg (by rw[h2];simp),if_neg (by rw[h3];simp),if_pos h4]
def auz{a b:Ty}(h:(b.k==0)=ZC)(h1:(a.k==0)=ZC)(h2:H3 b=ZC)(h3:(a.k==b.k)=ZB)(h4:(a.k==1)=ZC):LB a b=(decide (b.lo<=a.lo)&&decide (a.hi<=b.hi)):=by unfold LB;rw[if_neg X3,if_neg (by rw[h1];simp),if_neg (by rw[h2];simp),if_neg (by rw[h3];simp),if_neg (by rw[h4];simp)]
def or_zero(h1:0<=x)(h2:x<=18446744073709551615)(h3:0<=y)(h4:y<=18446744073709551615):(bits .or .u64 x y==0)=((x==0)&&(y==0)):=by
 obtain⟨a,rfl⟩:=cd h1;obtain⟨b,rfl⟩:=cd h3;rw[u64_or_nat a b Fn Fn,aj];simp only[cL,ne];constructor
 .intro h;have h5:a ||| b=0:=by exact_mod_cast h
  have h6:=Nat.or_eq_zero_iff.1 h5;omega
 .rintro ⟨h,h'⟩;obtain rfl:a=0:=Fn;obtain rfl:b=0:=Fn;rfl
def apz(h:n<=64):(1:Int)<=2 ^ n/\(2:Int) ^ n<=2 ^ 64:=by have h1:(1:Nat)<=2 ^ n:=Nat.one_le_two_pow;have h2:(2:Nat) ^ n<=2 ^ 64:=ZV Fn h;exact⟨by exact_mod_cast h1,by exact_mod_cast h2⟩
def uG(x n:Nat)(hn:n<=64)(hx:x<2 ^ 64):x &&& (18446744073709551615-(2 ^ n-1))=0↔x / 2 ^ n=0:=by
 have hp:(2:Nat) ^ n<=2 ^ 64:=ZV Fn hn;have hq:1<=(2:Nat) ^ n:=Nat.one_le_two_pow;have e:18446744073709551615-(2 ^ n-1)=2 ^ 64-((2 ^ n-1)+1):=Fn;have As:2 ^ n-1<2 ^ 64:=Fn;constructor
 .intro h;rw[<-Nat.shiftRight_eq_div_pow];apply Nat.eq_of_testBit_eq;intro i;rw[Nat.testBit_shiftRight,Nat.zero_testBit];have h1:=congrArg (fun y=>Nat.testBit y (n+i)) h;simp only[Nat.zero_testBit,Nat.testBit_and,e,Nat.testBit_two_pow_sub_succ As,Nat.testBit_two_pow_sub_one]at h1;by_cases h64:n+i<64
  .by_cases hb:Nat.testBit x (n+i)=ZB
   .exfalso;simp[h64,hb]at h1;omega
   .simpa using hb
  .exact Nat.testBit_lt_two_pow (nc hx (ZV Fn Fn))
 .intro h;apply Nat.eq_of_testBit_eq;intro i;rw[Nat.zero_testBit,Nat.testBit_and,e,Nat.testBit_two_pow_sub_succ As,Nat.testBit_two_pow_sub_one];by_cases hi:i<n
  .simp[hi]
  .have h2:Nat.testBit x i=ZC:=by
    have:=congrArg (fun y=>Nat.testBit y (i-n)) (Nat.shiftRight_eq_div_pow x n▸h);simp only[Nat.testBit_shiftRight,Nat.zero_testBit]at this;rwa [show n+(i-n)=i from by omega]at this
   simp[h2]
def nS{x y:Nat}:x ^^^ y=0↔x=y:=by
 constructor
 .intro h;apply Nat.eq_of_testBit_eq;intro i;have:=congrArg (fun z=>Nat.testBit z i) h;simp only[Nat.testBit_xor,Nat.zero_testBit]at this;cases hx:Nat.testBit x i<;>cases hy:Nat.testBit y i<;>simp_all
 .rintro rfl;simp
def ab8(lo hi:Int)(n:Nat)(hn:n<=64)(h1:0<=lo)(h2:lo<=18446744073709551615)(h3:0<=hi)(h4:hi<=18446744073709551615):
  bits .andNot .u64 (bits .xor .u64 lo hi) (2 ^ n-1)=0↔lo / 2 ^ n=hi / 2 ^ n:=by
 obtain⟨a,rfl⟩:=cd h1;obtain⟨b,rfl⟩:=cd h3;have hp:(2:Nat) ^ n<=2 ^ 64:=ZV Fn hn;have hq:1<=(2:Nat) ^ n:=Nat.one_le_two_pow;have ha:a<2 ^ 64:=Fn;have hb:b<2 ^ 64:=Fn;have hxl:a ^^^ b<2 ^ 64:=Nat.xor_lt_two_pow ha hb;have hm:((2:Int) ^ n-1)=((2 ^ n-1:Nat):Int):=by rw[Int.ofNat_sub hq];simp
 rw[u64_xor_nat a b Fn Fn,hm,u64_andNot_nat (a ^^^ b) (2 ^ n-1) Fn Fn];rw[show((2:Int) ^ n)=((2 ^ n:Nat):Int)from by simp];constructor
 .intro h;have h5:=(uG (a ^^^ b) n hn hxl).1 (by exact_mod_cast h);rw[<-Nat.shiftRight_eq_div_pow,Nat.shiftRight_xor_distrib,nS,Nat.shiftRight_eq_div_pow,Nat.shiftRight_eq_div_pow]at h5
  exact_mod_cast h5
 .intro h;have h5:a / 2 ^ n=b / 2 ^ n:=by exact_mod_cast h
  have h6:=(uG (a ^^^ b) n hn hxl).2 (by rw[<-Nat.shiftRight_eq_div_pow,Nat.shiftRight_xor_distrib,nS,Nat.shiftRight_eq_div_pow,Nat.shiftRight_eq_div_pow];exact h5)
  exact_mod_cast h6
structure Rw(P:Program)(t:TypeId)(ks:List CE):Prop where
 cells:P.cellsOf t=ks.length
 opn:∀{H:Type} {enc:TypeId×Value->H} {W:World} {sp:Nat->Bool} {hd:Bool} {fuel:Nat} {cs:List Value} {d:DataW H×List MemPlace},
  DataW.trod enc P W 0 sp hd fuel t cs=ZA d->∃r,cs=Bi ks r/\av ks r=ZB
def wX{k:IntKind}(h:(Lit.int k x).wf=ZB):Ae k x=ZB:=by simp only[Lit.wf,ne,aB]at h;rw[bA];exact h
def Rw.int{t:TypeId}(k:IntKind)(ht:P.underlying t=ZA (.int k))(hc:P.cellsOf t=1):Rw P t [ZA k] where
 cells:=hc
 opn:=fun h=>by obtain⟨x,h1,_,h2⟩:=DataW.trod_int ht h;exact⟨[x],h1,by simp[av,Dn,wX h2]⟩
def Rw.bool{t:TypeId}(ht:P.underlying t=ZA .bool)(hc:P.cellsOf t=1):Rw P t [ZE] where
 cells:=hc
 opn:=fun h=>by obtain⟨x,h1,_⟩:=DataW.trod_bool ht h;exact⟨[AE x],by cases x<;>exact h1,by cases x<;>rfl⟩
def tJ:∀{ks ks':List CE} {r r':List Int},av ks r=ZB->Bi (ks++ks') (r++r')=Bi ks r++Bi ks' r'
 |[],ks',[],r',_=>rfl
 |k::ks,ks',x::r,r',h=>by simp only[av,ne]at h;simp only[ZO,Bi,tJ h.2]
def pS:∀{ks ks':List CE} {r r':List Int},av ks r=ZB->av ks' r'=ZB->av (ks++ks') (r++r')=ZB
 |[],ks',[],r',_,h=>h
 |k::ks,ks',x::r,r',h,h'=>by simp only[av,ne]at h;simp only[ZO,av,h.1,pS h.2 h',Bool.and_self]
structure RwSeq(P:Program)(off:Nat)(fs:List Field)(ks:List CE):Prop where
 opn:∀{H:Type} {enc:TypeId×Value->H} {W:World} {sp:Nat->Bool} {hd:Bool} {n:Nat} {cs:List Value},
  (∀f∈fs,∃y,DataW.trod enc P W 0 sp hd n f.type ((cs.drop f.offset).take (P.cellsOf f.type))=ZA y)->cs.length=off+ks.length->∃r,cs.drop off=Bi ks r/\av ks r=ZB
def RwSeq.nil(P:Program)(off:Nat):RwSeq P off [] []:=⟨fun _ hl=>⟨[],List.drop_eq_nil_of_le (by simp at hl;omega),rfl⟩⟩
def RwSeq.cons{off:Nat}{f:Field}{fs:List Field}{ks':List CE}(r:Rw P f.type ks)(ho:f.offset=off)(s:RwSeq P (off+ks.length) fs ks'):RwSeq P off (f::fs) (ks++ks'):=⟨fun {H} {enc} {W} {sp} {hd} {n} {cs} h hl=>by
  obtain⟨y,hy⟩:=h f (by simp);rw[r.cells,ho]at hy;obtain⟨a,ha,C0⟩:=r.opn hy;obtain⟨b,hb,Ew⟩:=s.opn (fun g hg=>h g (by simp[hg])) (by simp at hl;omega);refine⟨a++b,?_,pS C0 Ew⟩;rw[tJ C0,<-ha,<-hb,<-List.drop_drop,List.take_append_drop]⟩
def Rw.struct{t:TypeId}{fs:Array Field}(s:RwSeq P 0 fs.toList ks)(ht:P.underlying t=ZA (.struct fs))(hc:P.cellsOf t=ks.length):Rw P t ks where
 cells:=hc
 opn:=fun {H} {enc} {W} {sp} {hd} {fuel} {cs} {d} h=>by
  obtain⟨xs,n,_,_,hl,A0,hf⟩:=DataW.trod_struct ht h;have:=s.opn (enc:=enc) (W:=W) (sp:=sp) (hd:=hd) (n:=n) (cs:=cs) (fun f hm=>by
   obtain⟨i,hi,he⟩:=List.getElem_of_mem hm;have Bq:i<fs.size:=XS;have h1:=hf i f (by rw[Array.getElem?_eq_getElem Bq];simpa using congrArg ZA he);rw[AH Fn]at h1;exact⟨_,h1⟩) Fn
  simpa using this
def abA{α:Type}{Q:Nat->α->Prop}(h:∀i,i<n->∃x,Q i x):∃l:List α,l.length=n/\∀i x,l[i]? =ZA x->Q i x:=by
 induction n with
 |zero=>exact⟨[],rfl,by simp⟩
 |succ n ih=>
   obtain⟨l,hl,hq⟩:=ih (fun i hi=>h i Fn);obtain⟨x,hx⟩:=h n Fn;refine⟨l++[x],by simp[hl],fun i y hy=> ?_⟩;rw[List.getElem?_append]at hy;split at hy
   .exact hq i y hy
   .have:i=n:=by
     rcases bt (i-l.length) 1 with h1|h1
     .exact Fn
     .rw[cf XE]at hy;cases hy
    subst this;have:i-l.length=0:=Fn;rw[this]at hy;simp at hy;subst hy;exact hx
def acb{W:World}{a:Addr}{cs:List Value}(h:W.cells? 0 a n=ZA cs)(hn:0<n):a.block<W.heap.size/\a.spot=ZE:=by
 obtain⟨_,A0,Dx⟩:=World.cells?_some h;have h0:=Dx 0 hn;rw[AH Fn]at h0;obtain⟨b,off,spot⟩:=a;have hs:spot=ZE:=by
  cases spot with
  |none=>rfl
  |some s=>exfalso;simp[Addr.add,World.cell?]at h0;split at h0<;>simp at h0
 subst hs;refine⟨?_,rfl⟩;rcases bt b W.heap.size with h1|h1
 .exact h1
 .simp[Addr.add,World.cell?,Array.getElem?_eq_none h1]at h0
def vB{t e:TypeId}(r:Rw P e ks)(Eo:0<ks.length)(ht:P.underlying t=ZA (.slice e)){H:Type}{enc:TypeId×Value->H}{W:World}{hd:Bool}{v:Value}{d:DataW H}{p:List MemPlace}{rc:Reach}{b0:Nat}(hv:Value.okWide P W rc b0 t v)(h:DataW.Trod enc P W 0 (fun _=>ZB) hd t v d p):∃L s,v=s.v/\s.n=L.length/\RdRow W ks.length s (flat ks L)/\RowsIn ks L/\∀k,s.blk ZC=ZA k->k<W.heap.size:=by
 obtain⟨fuel,hf⟩:=h;obtain⟨a0,Hz,Jx,rfl⟩:=okWide_slice ht hv;have CT:(Value.slice a0 Hz Jx).cells.toList=[.slice a0 Hz Jx]:=rfl;rw[CT]at hf;rcases Go.Deep.open_slice ht hf with⟨h1,_⟩|⟨a,len,Hp,m,n,D,Pl,h1,_,hl,hm,hmm,_,Nv⟩
 .simp only[Be,Value.slice.injEq,and_true]at h1;obtain⟨rfl,rfl,rfl⟩:=h1;exact⟨[],⟨ZE,0,0,[]⟩,rfl,rfl,⟨by simp[flat],Nat.le_refl _,by simp[maxLen],fun _=>⟨rfl,rfl⟩,fun a ha=>(by cases ha)⟩,⟨fun r hr=>(by cases hr),by simp⟩,fun k hk=>by have:=aA hk;cases this⟩
 .simp only[Be,Value.slice.injEq,and_true]at h1;obtain⟨rfl,rfl,rfl⟩:=h1;have hmc:m=Jx:=by rw[hmm];rfl
  subst hmc;rw[r.cells]at Nv;have key:∀i,i<Hz->∃x,W.cells? 0 (a.add (i*ks.length)) ks.length=ZA (Bi ks x)/\av ks x=ZB:=fun i hi=>by obtain⟨Gu,h1,h2⟩:=Nv i Fn;obtain⟨x,hx,F9⟩:=r.opn h2;exact⟨x,by rw[<-hx];exact h1,F9⟩
  obtain⟨L,hL,hq⟩:=abA key;have AV:∀x∈L,av ks x=ZB:=fun x hx=>by obtain⟨i,hi,he⟩:=List.getElem_of_mem hx;exact(hq i x (by rw[AH hi,he])).2
  refine⟨L,⟨ZA a,Hz,m,[]⟩,rfl,hL.symm,⟨?_,hl,hm,fun ha=>(by cases ha),fun a' C0 i u hu=> ?_⟩,⟨AV,by rw[hL];exact cX hl hm⟩,fun k hk=> ?_⟩
  .rw[bP AV,hL]
  .cases C0;have As:i<(flat ks L).length:=(cZ.1 hu).1;rw[bP AV]at As;have hi:i / ks.length<L.length:=Nat.div_lt_of_lt_mul (by rw[Nat.mul_comm];exact As);have hc:i % ks.length<ks.length:=Nat.mod_lt _ Eo;have e1:i=i / ks.length*ks.length+i % ks.length:=by rw[Nat.mul_comm];exact(Nat.div_add_mod _ _).symm
   rw[e1,mJ (AH hc) AV hi]at hu;obtain⟨q1,q2⟩:=hq (i / ks.length) L[i / ks.length] (AH hi);obtain⟨_,A0,Dx⟩:=World.cells?_some q1;have h3:=Dx (i % ks.length) hc;rw[oE q2 (AH hc)]at h3;have hg:L.getD (i / ks.length) []=L[i / ks.length]:=by rw[bV,AH hi];rfl
   rw[hg]at hu;rw[e1,<-bU,h3];exact hu
  .have hc:m≠0:=fun hc=>by
    unfold SV.blk at hk;simp[hc]at hk
   obtain⟨Gu,h1,h2⟩:=Nv 0 Fn;have h4:=acb h1 Eo;have h5:=aA hk;simp only[SV.v,Value.ownBlock,bv]at h5;rw[<-h5];have:(a.add (0*ks.length)).block=a.block:=YI;rw[<-this];exact h4.1
def aW{U U':Env}{m:Nat}(h:Ag m U U'):∀(vks:List VK) (n:Nat),n+vks.length<=m->varsD U' n vks=varsD U n vks
 |[],_,_=>rfl
 |k::vks,n,hn=>by simp only[List.length_cons]at hn;have h1:=h n Fn;simp only[varsD,aW h vks (n+1) Fn];congr 1;cases k<;>simp only[varD,h1.1,h1.2.1,h1.2.2]
def adP{a b:Rg}(ha:a.wf)(hb:b.wf)(ma:AS a=ZB)(mb:AS b=ZB)(hc:Bw cc a b=ZB):(BW cc a b).wf:=by
 rw[dl]at ma mb;have sv:=fV b.ul;obtain⟨a1,a2,a3,a4⟩:=ha;obtain⟨b1,b2,b3,b4⟩:=hb;unfold Bw at hc;unfold BW;generalize BZ b.ul=t at *;by_cases c1:cc=1
 .rw[if_pos c1]at hc ⊢;by_cases hs:em b=ZB
  .rw[if_pos hs]at hc ⊢;simp only[ne,ZP,decide_eq_false_iff_not]at hc;refine⟨?_,?_,?_,?_⟩<;>simp only<;>split<;>omega
  .rw[if_neg hs];exact⟨a1,a2,a3,a4⟩
 rw[if_neg c1]at hc ⊢;by_cases c2:cc=2
 .rw[if_pos c2]at hc ⊢;simp only[ZP,decide_eq_false_iff_not]at hc;exact⟨by simp only;omega,a2,a3,a4⟩
 rw[if_neg c2]at hc ⊢;by_cases c3:cc=3
 .rw[if_pos c3];exact⟨by simp only;omega,a2,a3,a4⟩
 rw[if_neg c3];by_cases c4:cc=4
 .rw[if_pos c4]at hc ⊢;simp only[ZP,decide_eq_false_iff_not]at hc;exact⟨a1,by simp only;omega,a3,a4⟩
 rw[if_neg c4]at hc ⊢;by_cases c5:cc=5
 .rw[if_pos c5];exact⟨a1,by simp only;omega,a3,a4⟩
 rw[if_neg c5];by_cases c6:cc=6
 .rw[if_pos c6]at hc ⊢;simp only[ZP,decide_eq_false_iff_not]at hc;exact⟨a1,a2,by simp only;omega,a4⟩
 rw[if_neg c6]at hc ⊢;by_cases c7:cc=7
 .rw[if_pos c7];exact⟨a1,a2,by simp only;omega,a4⟩
 rw[if_neg c7];by_cases c8:cc=8
 .rw[if_pos c8]at hc ⊢;simp only[ZP,decide_eq_false_iff_not]at hc;exact⟨a1,a2,a3,by simp only;omega⟩
 rw[if_neg c8];by_cases c9:cc=9
 .rw[if_pos c9];exact⟨a1,a2,a3,by simp only;omega⟩
 rw[if_neg c9];exact⟨a1,a2,a3,a4⟩
def zs(v w:Int):Int:=wrap64 (eD (Ap v w) w)
def lP(cc w a b:Int):Bool:=
 if cc=0 then Ap a w==Ap b w
 else if cc=1 then Ap a w != Ap b w
 else if cc=2 then decide (Ap b w<Ap a w)
 else if cc=3 then decide (Ap b w<=Ap a w)
 else if cc=4 then decide (Ap a w<Ap b w)
 else if cc=5 then decide (Ap a w<=Ap b w)
 else if cc=6 then decide (zs b w<zs a w)
 else if cc=7 then decide (zs b w<=zs a w)
 else if cc=8 then decide (zs a w<zs b w)
 else if cc=9 then decide (zs a w<=zs b w)
 else bits .and .u64 (Ap a w) (Ap b w) != 0
def alB(h4:0<=op)(h5:op<=10):op=0\/op=1\/op=2\/op=3\/op=4\/op=5\/op=6\/op=7\/op=8\/op=9\/op=10:=by omega
def arp(v:Int):zs v 64=BZ v:=by simp[zs,Ap,eD]
def xD(h:lP cc 64 v w=ZB):zA cc v w=ZB:=by
 unfold lP at h;rw[dJ,dJ,arp,arp]at h;unfold zA;by_cases c0:cc=0
 .rw[if_pos c0]at h ⊢;simpa using h
 rw[if_neg c0]at h ⊢;by_cases c1:cc=1
 .rw[if_pos c1]at h ⊢;simpa using h
 rw[if_neg c1]at h ⊢;by_cases c2:cc=2
 .rw[if_pos c2]at h ⊢;exact h
 rw[if_neg c2]at h ⊢;by_cases c3:cc=3
 .rw[if_pos c3]at h ⊢;exact h
 rw[if_neg c3]at h ⊢;by_cases c4:cc=4
 .rw[if_pos c4]at h ⊢;exact h
 rw[if_neg c4]at h ⊢;by_cases c5:cc=5
 .rw[if_pos c5]at h ⊢;exact h
 rw[if_neg c5]at h ⊢;by_cases c6:cc=6
 .rw[if_pos c6]at h ⊢;exact h
 rw[if_neg c6]at h ⊢;by_cases c7:cc=7
 .rw[if_pos c7]at h ⊢;exact h
 rw[if_neg c7]at h ⊢;by_cases c8:cc=8
 .rw[if_pos c8]at h ⊢;exact h
 rw[if_neg c8]at h ⊢;by_cases c9:cc=9
 .rw[if_pos c9]at h ⊢;exact h
 rw[if_neg c9]
def alG{a b:Rg}(h:CN cc a b=ZB):jt cc a b=ZB:=by unfold CN at h;rw[ne]at h;exact h.1
def aqN{a b:Rg}(ha:a.wf)(hb:b.wf)(v0:0<=v)(v1:v<=18446744073709551615)(w0:0<=w)(w1:w<=18446744073709551615)(h1:AF a v=ZB)(h2:AF b w=ZB)(c0:0<=cc)(c1:cc<=10)(hy:zA cc v w=ZB):CN cc a b=ZB/\AF (C7 cc a b) v=ZB:=by
 have hg:jt cc a b=ZB:=by unfold jt;rw[cW h1,cW h2,dg c0,dg c1];rfl
 by_cases c:cc=0
 .have e:v=w:=by
   unfold zA at hy;rw[if_pos c]at hy;exact Ah hy
  subst e;have hm:=abO ha hb v0 v1 h2;rw[h1]at hm;have hm:=hm.symm;rw[ne]at hm;have hk:CN cc a b=ZB:=by unfold CN;rw[hg,if_pos c,hm.1];rfl
  refine⟨hk,?_⟩;unfold C7;rw[if_pos hk,if_pos c];exact hm.2
 .have hr:=apr v0 v1 w0 w1 hb h1 h2 hy c;have hw:=adP ha hb (cW h1) (cW h2) hr.1;have hn:=uD hw v0 v1 hr.2;have hk:CN cc a b=ZB:=by
   unfold CN;rw[hg,if_neg c,hr.1,hn];rfl
  refine⟨hk,?_⟩;unfold C7;rw[if_pos hk,if_neg c,qJ hw v0 v1 hn];exact hr.2
def tb(x:Int)(i:Nat):Bool:=(ZL 64 x).getLsbD i
def mP(h0:0<=x)(h1:x<=18446744073709551615):((ZL 64 x).toNat:Int)=x:=by rw[BitVec.toNat_ofInt];omega
def at2(h0:0<=x)(h1:x<=18446744073709551615)(h2:0<=y)(h3:y<=18446744073709551615)(h:ZL 64 x=ZL 64 y):x=y:=by rw[<-mP h0 h1,<-mP h2 h3,h]
def VU(hx:0<=x/\x<=18446744073709551615)(hy:0<=y/\y<=18446744073709551615)(h:∀i,i<64->tb x i=tb y i):x=y:=at2 hx.1 hx.2 hy.1 hy.2 (BitVec.eq_of_getLsbD_eq fun i hi=>h i hi)
def dj(x:Int):ZL 64 (ZG .u64 x)=ZL 64 x:=by apply BitVec.eq_of_toNat_eq;rw[BitVec.toNat_ofInt,BitVec.toNat_ofInt,aT];omega
def Uc(x:BitVec 64):ZL 64 (x.toNat:Int)=x:=by simp
def at3(x y:Int):ZL 64 (bits .and .u64 x y)=ZL 64 x &&& ZL 64 y:=(dj _).trans (Uc _)
def atZ(x y:Int):ZL 64 (bits .or .u64 x y)=ZL 64 x ||| BitVec.ofInt 64 y:=(dj _).trans (Uc _)
def atY(x y:Int):ZL 64 (bits .xor .u64 x y)=ZL 64 x ^^^ ZL 64 y:=(dj _).trans (Uc _)
def aiK(x y:Int):ZL 64 (bits .andNot .u64 x y)=ZL 64 x &&& ~~~ ZL 64 y:=(dj _).trans (Uc _)
def jE(x y:Int)(i:Nat):tb (bits .and .u64 x y) i=(tb x i&&tb y i):=by unfold tb;rw[at3,BitVec.getLsbD_and]
def fE(x y:Int)(i:Nat):tb (bits .or .u64 x y) i=(tb x i||tb y i):=by unfold tb;rw[atZ,BitVec.getLsbD_or]
def lZ(x y:Int)(i:Nat):tb (bits .xor .u64 x y) i=(tb x i ^^ tb y i):=by unfold tb;rw[atY,BitVec.getLsbD_xor]
def cz(x y:Int)(hi:i<64):tb (bits .andNot .u64 x y) i=(tb x i &&!tb y i):=by unfold tb;rw[aiK,BitVec.getLsbD_and,BitVec.getLsbD_not];simp[hi]
def hZ(i:Nat):tb 0 i=ZC:=by unfold tb;simp
def aoL(hi:i<64):tb 18446744073709551615 i=ZB:=by unfold tb;rw[show ZL 64 18446744073709551615=BitVec.allOnes 64 from by decide,BitVec.getLsbD_allOnes];exact dg hi
def xX(hx:0<=x/\x<=18446744073709551615)(hy:0<=y/\y<=18446744073709551615):(x==y)=ZB↔∀i,i<64->tb x i=tb y i:=by rw[cL];exact⟨fun h i _=>by rw[h],VU hx hy⟩
def mV:(0:Int)<=0/\(0:Int)<=18446744073709551615:=by omega
def eN(a:Kn):Bv a=ZB↔∀i,i<64->(tb a.v i&&tb a.m i)=ZC:=by unfold Bv;rw[xX (iF _ _) mV];simp only[jE,hZ]
def bh{a:Kn}(ha:a.wf)(x:Int):AX a x=ZB↔∀i,i<64->(tb a.v i&&tb a.m i)=ZC/\(tb x i &&!tb a.m i)=tb a.v i:=by
 unfold AX;rw[ne,eN,xX (eo _ _) ha.1];constructor
 .rintro ⟨h1,h2⟩ i hi;exact⟨h1 i hi,by have:=h2 i hi;rwa [cz _ _ hi]at this⟩
 .intro h;exact⟨fun i hi=>(h i hi).1,fun i hi=>by rw[cz _ _ hi];exact(h i hi).2⟩
def ahw{a b:Kn}(hb:b.wf):Ky a b=ZB↔∀i,i<64->(tb a.v i&&tb a.m i)=ZC/\(tb b.v i&&tb b.m i)=ZC/\(tb a.m i||tb b.m i)=tb b.m i/\(tb a.v i &&!tb b.m i)=tb b.v i:=by
 unfold Ky;rw[ne,ne,ne,eN,eN,xX (iO _ _) hb.2,xX (eo _ _) hb.1];constructor
 .rintro ⟨h1,h2,h3,h4⟩ i hi;exact⟨h1 i hi,h2 i hi,by have:=h3 i hi;rwa [fE]at this,by have:=h4 i hi;rwa [cz _ _ hi]at this⟩
 .intro h;exact⟨fun i hi=>(h i hi).1,fun i hi=>(h i hi).2.1,fun i hi=>by rw[fE];exact(h i hi).2.2.1,fun i hi=>by rw[cz _ _ hi];exact(h i hi).2.2.2⟩
def ahp(a b:Kn):(yV a b==0)=ZB↔∀i,i<64->((tb a.v i ^^ tb b.v i) &&!(tb a.m i||tb b.m i))=ZC:=by
 unfold yV;rw[xX (eo _ _) mV];constructor
 .intro h i hi;have:=h i hi;rwa [cz _ _ hi,lZ,fE,hZ]at this
 .intro h i hi;rw[cz _ _ hi,lZ,fE,hZ];exact h i hi
def rM(a b:Kn):eA a b=ZB↔∀i,i<64->(tb a.v i&&tb a.m i)=ZC/\(tb b.v i&&tb b.m i)=ZC/\((tb a.v i ^^ tb b.v i) &&!(tb a.m i||tb b.m i))=ZC:=by unfold eA;rw[ne,ne,eN,eN,ahp];exact⟨fun h i hi=>⟨h.1 i hi,h.2.1 i hi,h.2.2 i hi⟩,fun h=>⟨fun i hi=>(h i hi).1,fun i hi=>(h i hi).2.1,fun i hi=>(h i hi).2.2⟩⟩
def wR(v m:Int):Bv (jZ v m)=ZB:=by rw[eN];intro i hi;show(tb (bits .andNot .u64 v m) i&&tb m i)=ZC;rw[cz _ _ hi];cases tb v i<;>cases tb m i<;>rfl
def akF:Bv kall=ZB:=by rw[eN];intro i hi;show(tb 0 i&&_)=ZC;rw[hZ];rfl
def mG(x:Int):AX kall x=ZB:=by rw[bh jx];intro i hi;show(tb 0 i&&tb 18446744073709551615 i)=ZC/\(tb x i &&!tb 18446744073709551615 i)=tb 0 i;rw[hZ,aoL hi];simp
def um(h:0<=v/\v<=18446744073709551615):AX (Eu v) v=ZB:=by rw[bh (sP h)];intro i hi;show(tb v i&&tb 0 i)=ZC/\(tb v i &&!tb 0 i)=tb v i;rw[hZ];simp
def Vm(h0:0<=x)(h1:x<=18446744073709551615)(hw:w=32\/w=64)(hi:i<64):tb (Ap x w) i=(decide ((i:Int)<w)&&tb x i):=by
 rcases hw with rfl|rfl
 .rw[dK];obtain⟨n,rfl⟩:=cd h0;unfold tb;rw[show((n:Int) % 4294967296)=((n % 2 ^ 32:Nat):Int)from by omega,BitVec.ofInt_natCast,BitVec.ofInt_natCast,BitVec.getLsbD_ofNat,BitVec.getLsbD_ofNat,Nat.testBit_mod_two_pow];have e:decide ((i:Int)<32)=decide (i<32):=by rw[aj];simp;omega
  rw[e];cases decide (i<64)<;>cases decide (i<32)<;>simp
 .rw[dJ];simp[show(i:Int)<64 from by omega]
def asH{a:Kn}(h:Bv a=ZB)(w:Int):B5 a w=⟨Ap a.v w,Ap a.m w⟩:=by simp[B5,h]
def kH{a:Kn}(h:AX a x=ZB):Bv a=ZB:=by unfold AX at h;rw[ne]at h;exact h.1
def oK{a:Kn}(ha:a.wf)(hx:0<=x/\x<=18446744073709551615)(h:AX a x=ZB)(hw:w=32\/w=64):AX (B5 a w) (Ap x w)=ZB:=by rw[bh (jw ha w),asH (kH h)];intro i hi;have:=(bh ha x).1 h i hi;show(tb (Ap a.v w) i&&tb (Ap a.m w) i)=ZC/\(tb (Ap x w) i &&!tb (Ap a.m w) i)=tb (Ap a.v w) i;rw[Vm ha.1.1 ha.1.2 hw hi,Vm ha.2.1 ha.2.2 hw hi,Vm hx.1 hx.2 hw hi];revert this;cases tb a.v i<;>cases tb a.m i<;>cases tb x i<;>cases decide ((i:Int)<w)<;>simp
def ahn{a:Nat}(h:∀j,a.testBit j=ZB->b.testBit j=ZB):a<=b:=by
 have:a &&& b=a:=by
  apply Nat.eq_of_testBit_eq;intro j;rw[Nat.testBit_and];cases ha:a.testBit j
  .rfl
  .rw[h j ha];rfl
 rw[<-this];exact Nat.and_le_right
def Sub64(x y:BitVec 64):Prop:=∀i,x.getLsbD i=ZB->y.getLsbD i=ZB
def Sub64.mod{x y:BitVec 64}(h:Sub64 x y)(i:Nat):x.toNat % 2 ^ i<=y.toNat % 2 ^ i:=by apply ahn;intro j hj;rw[Nat.testBit_mod_two_pow]at hj ⊢;simp only[ne]at hj ⊢;exact⟨hj.1,h j hj.2⟩
def sx{x x' y y':BitVec 64}(hx:Sub64 x x')(hy:Sub64 y y')(i:Nat)(h:BitVec.carry i x y ZC=ZB):BitVec.carry i x' y' ZC=ZB:=by have h1:=hx.mod i;have h2:=hy.mod i;simp only[BitVec.carry,aB,Bool.toNat_false]at h ⊢;omega
def KQ(i:Nat)(x y:BitVec 64):Bool:=decide (x.toNat % 2 ^ i<y.toNat % 2 ^ i)
def oR{x x' y y':BitVec 64}(hx:Sub64 x' x)(hy:Sub64 y y')(i:Nat)(h:KQ i x y=ZB):KQ i x' y'=ZB:=by have h1:=hx.mod i;have h2:=hy.mod i;simp only[KQ,aB]at h ⊢;omega
def gR(x y:BitVec 64)(hi:i<64):(x-y).getLsbD i=(x.getLsbD i ^^ (y.getLsbD i ^^ KQ i x y)):=by
 have e:x=(x-y)+y:=by rw[BitVec.sub_add_cancel]
 have h1:=congrArg (fun z=>z.getLsbD i) e;simp only[BitVec.getLsbD_add hi]at h1;have hc:BitVec.carry i (x-y) y ZC=KQ i x y:=by
  have hp:0<2 ^ i:=Nat.two_pow_pos i;have hd:(2:Nat) ^ 64=2 ^ i*2 ^ (64-i):=by rw[<-Nat.pow_add];congr 1;omega
  have ht:(x-y).toNat % 2 ^ i=(x.toNat % 2 ^ i+(2 ^ i-y.toNat % 2 ^ i)) % 2 ^ i:=by
   rw[BitVec.toNat_sub,hd,Nat.mod_mul_right_mod];have hy:=y.isLt;have hq:=Nat.div_add_mod y.toNat (2 ^ i);have He:y.toNat / 2 ^ i<2 ^ (64-i):=by rw[Nat.div_lt_iff_lt_mul hp,Nat.mul_comm,<-hd];exact hy
   obtain⟨k,hk⟩:∃k,2 ^ (64-i)=y.toNat / 2 ^ i+1+k:=⟨2 ^ (64-i)-(y.toNat / 2 ^ i+1),by omega⟩
   have As:y.toNat % 2 ^ i<2 ^ i:=Nat.mod_lt _ hp;have e2:2 ^ i*2 ^ (64-i)-y.toNat=(2 ^ i-y.toNat % 2 ^ i)+2 ^ i*k:=by rw[hk,Nat.mul_add,Nat.mul_add,Nat.mul_one];omega
   rw[e2];have hx:=Nat.div_add_mod x.toNat (2 ^ i);rw[show 2 ^ i-y.toNat % 2 ^ i+2 ^ i*k+x.toNat=(x.toNat % 2 ^ i+(2 ^ i-y.toNat % 2 ^ i))+2 ^ i*(k+x.toNat / 2 ^ i)from by rw[Nat.mul_add];omega];rw[Nat.add_mul_mod_self_left]
  have hxl:x.toNat % 2 ^ i<2 ^ i:=Nat.mod_lt _ hp;have MG:y.toNat % 2 ^ i<2 ^ i:=Nat.mod_lt _ hp;simp only[BitVec.carry,KQ,ht,Bool.toNat_false];generalize 2 ^ i=d at *;generalize x.toNat % d=r at *;generalize y.toNat % d=s at *;rw[decide_eq_decide];by_cases hrs:r<s
  .rw[Nat.mod_eq_of_lt Fn];omega
  .rw[show r+(d-s)=(r-s)+d from by omega,Nat.add_mod_right,Nat.mod_eq_of_lt Fn];omega
 rw[hc]at h1;rw[h1];cases(x-y).getLsbD i<;>cases y.getLsbD i<;>cases KQ i x y<;>rfl
def Among(V M p:BitVec 64):Prop:=∀i,i<64->(V.getLsbD i&&M.getLsbD i)=ZC/\(p.getLsbD i &&!M.getLsbD i)=V.getLsbD i
def Among.low{V p:BitVec 64}(h:Among V M p):Sub64 V p:=by intro i hi;have hl:=BitVec.lt_of_getLsbD hi;have:=h i hl;revert this;rw[hi];cases M.getLsbD i<;>cases p.getLsbD i<;>simp
def Among.high{V p:BitVec 64}(h:Among V M p):Sub64 p (V ||| M):=by intro i hi;have hl:=BitVec.lt_of_getLsbD hi;have:=h i hl;revert this;rw[BitVec.getLsbD_or,hi];cases M.getLsbD i<;>cases V.getLsbD i<;>simp
def Among.at{V p:BitVec 64}(h:Among V M p)(hi:i<64)(hm:M.getLsbD i=ZC):p.getLsbD i=V.getLsbD i:=by have:=(h i hi).2;rw[hm]at this;simpa using this
def Among.or{V p:BitVec 64}(h:Among V M p):V+M=V ||| M:=by apply BitVec.add_eq_or_of_and_eq_zero;apply BitVec.eq_of_getLsbD_eq;intro i hi;rw[BitVec.getLsbD_and,(h i hi).1];simp
def ari{V p W N q:BitVec 64}(h1:Among V M p)(h2:Among W N q)(hi:i<64)(hm:M.getLsbD i=ZC)(hn:N.getLsbD i=ZC)(he:(M+N+(V+W)).getLsbD i=(V+W).getLsbD i):
  (p+q).getLsbD i=(V+W).getLsbD i:=by
 have e:M+N+(V+W)=(V ||| M)+(W ||| N):=by rw[<-h1.or,<-h2.or];ac_rfl
 rw[e,BitVec.getLsbD_add hi,BitVec.getLsbD_add hi,BitVec.getLsbD_or,BitVec.getLsbD_or,hm,hn,bj,bj]at he;have m1:=sx h1.low h2.low i;have m2:=sx h1.high h2.high i;rw[BitVec.getLsbD_add hi,BitVec.getLsbD_add hi,h1.at hi hm,h2.at hi hn];revert he m1 m2;cases BitVec.carry i V W ZC<;>cases BitVec.carry i p q ZC<;>cases BitVec.carry i (V ||| M) (W ||| N) ZC<;>cases V.getLsbD i<;>cases W.getLsbD i<;>simp
def aoQ{V p W N q:BitVec 64}(h1:Among V M p)(h2:Among W N q)(hi:i<64)(hm:M.getLsbD i=ZC)(hn:N.getLsbD i=ZC)(he:(V-W+M).getLsbD i=(V-W-N).getLsbD i):
  (p-q).getLsbD i=(V-W).getLsbD i:=by
 have e1:V-W+M=(V ||| M)-W:=by rw[<-h1.or];simp only[BitVec.sub_eq_add_neg];ac_rfl
 have e2:V-W-N=V-(W ||| N):=by rw[<-h2.or];simp only[BitVec.sub_eq_add_neg,BitVec.neg_add];ac_rfl
 rw[e1,e2,gR _ _ hi,gR _ _ hi,BitVec.getLsbD_or,BitVec.getLsbD_or,hm,hn,bj,bj]at he;have m1:=oR (x:=V ||| M) (x':=p) (y:=W) (y':=q) h1.high h2.low i;have m2:=oR (x:=p) (x':=V) (y:=q) (y':=W ||| N) h1.low h2.high i;have m3:=oR (x:=V ||| M) (x':=V) (y:=W) (y':=W) (fun j hj=>by rw[BitVec.getLsbD_or,hj];rfl) (fun _ h=>h) i;have m4:=oR (x:=V) (x':=V) (y:=W) (y':=W ||| N) (fun _ h=>h) (fun j hj=>by rw[BitVec.getLsbD_or,hj];rfl) i;rw[gR _ _ hi,gR _ _ hi,h1.at hi hm,h2.at hi hn];revert he m1 m2 m3 m4;cases KQ i V W<;>cases KQ i p q<;>cases KQ i (V ||| M) W<;>cases KQ i V (W ||| N)<;>cases V.getLsbD i<;>cases W.getLsbD i<;>simp
def mU{a:Kn}(ha:a.wf)(h:AX a x=ZB):Among (ZL 64 a.v) (ZL 64 a.m) (ZL 64 x):=(bh ha x).1 h
def ap9{a b:Kn}(ha:a.wf)(hb:b.wf){p q:Int}(hp:AX a p=ZB)(hq:AX b q=ZB)(hi:i<64)(hm:tb (JG a b).m i=ZC):
  tb a.m i=ZC/\tb b.m i=ZC/\tb (p+q) i=tb (a.v+b.v) i:=by
 have Hy:tb (bits .or .u64 (bits .or .u64 (bits .xor .u64 (ZG .u64 (a.v+b.v)) (ZG .u64 (ZG .u64 (a.m+b.m)+ZG .u64 (a.v+b.v)))) a.m) b.m) i=ZC:=hm;rw[fE,fE,lZ]at Hy;simp only[Bool.or_eq_false_iff]at Hy;obtain⟨⟨h1,h2⟩,h3⟩:=Hy;refine⟨h2,h3,?_⟩;have:=ari (mU ha hp) (mU hb hq) hi h2 h3 (by
  unfold tb at h1;rw[dj,dj,BitVec.ofInt_add,BitVec.ofInt_add,dj,dj,BitVec.ofInt_add,BitVec.ofInt_add]at h1;revert h1;cases(ZL 64 a.m+ZL 64 b.m+(ZL 64 a.v+ZL 64 b.v)).getLsbD i<;>cases(ZL 64 a.v+ZL 64 b.v).getLsbD i<;>simp)
 unfold tb;rw[BitVec.ofInt_add,BitVec.ofInt_add];exact this
def TA(x y:Int):ZL 64 (x-y)=ZL 64 x-ZL 64 y:=by rw[Int.sub_eq_add_neg,BitVec.ofInt_add,BitVec.ofInt_neg,BitVec.sub_eq_add_neg]
def aho{a b:Kn}(ha:a.wf)(hb:b.wf){p q:Int}(hp:AX a p=ZB)(hq:AX b q=ZB)(hi:i<64)(hm:tb (Gl a b).m i=ZC):
  tb a.m i=ZC/\tb b.m i=ZC/\tb (p-q) i=tb (a.v-b.v) i:=by
 have Hy:tb (bits .or .u64 (bits .or .u64 (bits .xor .u64 (ZG .u64 (ZG .u64 (a.v-b.v)+a.m)) (ZG .u64 (ZG .u64 (a.v-b.v)-b.m))) a.m) b.m) i=ZC:=hm;rw[fE,fE,lZ]at Hy;simp only[Bool.or_eq_false_iff]at Hy;obtain⟨⟨h1,h2⟩,h3⟩:=Hy;refine⟨h2,h3,?_⟩;have:=aoQ (mU ha hp) (mU hb hq) hi h2 h3 (by
  unfold tb at h1;rw[dj,dj,BitVec.ofInt_add,TA,dj,TA]at h1;revert h1;cases(ZL 64 a.v-ZL 64 b.v+ZL 64 a.m).getLsbD i<;>cases(ZL 64 a.v-ZL 64 b.v-ZL 64 b.m).getLsbD i<;>simp)
 unfold tb;rw[TA,TA];exact this
def gg{r:Int}(hm:0<=m/\m<=18446744073709551615):AX (jZ v m) r=ZB↔∀i,i<64->tb m i=ZC->tb r i=tb v i:=by
 rw[bh (eJ hm)];constructor
 .intro h i hi h0;have h1:(tb r i &&!tb m i)=tb (bits .andNot .u64 v m) i:=(h i hi).2;rw[cz _ _ hi,h0]at h1;simpa using h1
 .intro h i hi;show(tb (bits .andNot .u64 v m) i&&tb m i)=ZC/\(tb r i &&!tb m i)=tb (bits .andNot .u64 v m) i;rw[cz _ _ hi];have:=h i hi;revert this;cases tb v i<;>cases tb m i<;>cases tb r i<;>simp
def iU(n:Nat)(hi:i<64):tb (n:Int) i=n.testBit i:=by unfold tb;rw[BitVec.ofInt_natCast,BitVec.getLsbD_ofNat];simp[hi]
def JB(op w:Int)(s i:Nat):Option Nat:=
 if op=6 then(if(i:Int)<w/\s<=i then ZA (i-s)else ZE)
 else if op=7 then(if((i+s:Nat):Int)<w then ZA (i+s)else ZE)
 else(if(i:Int)<w then ZA (if((i+s:Nat):Int)<w then i+s else(w-1).toNat)else ZE)
def src6(w:Int)(s i:Nat):JB 6 w s i=if(i:Int)<w/\s<=i then ZA (i-s)else ZE:=by unfold JB;rw[if_pos rfl]
def src7(w:Int)(s i:Nat):JB 7 w s i=if((i+s:Nat):Int)<w then ZA (i+s)else ZE:=by unfold JB;rw[if_neg ST,if_pos rfl]
def auC(w:Int)(s i:Nat):JB 12 w s i=if(i:Int)<w then ZA (if((i+s:Nat):Int)<w then i+s else(w-1).toNat)else ZE:=by unfold JB;rw[if_neg ST,if_neg ST]
def qL(x:Int):Option Nat->Bool
 |some j=>tb x j
 |none=>ZC
def tY(n:Nat)(hn:n<2 ^ 64)(w:Int)(hw:w=32\/w=64):∃m:Nat,Ap (n:Int) w=(m:Int)/\m<2 ^ 64/\∀i,m.testBit i=(decide ((i:Int)<w)&&n.testBit i):=by
 rcases hw with rfl|rfl
 .refine⟨n % 2 ^ 32,by rw[dK];omega,by omega,fun i=> ?_⟩;rw[Nat.testBit_mod_two_pow];congr 1;rw[decide_eq_decide];omega
 .refine⟨n,by rw[dJ],hn,fun i=> ?_⟩;by_cases hi:i<64
  .simp[show(i:Int)<64 from by omega]
  .rw[Nat.testBit_lt_two_pow (nc hn (ZV Fn Fn))];simp
def ao2(x:Int)(h0:0<=x)(h1:x<=18446744073709551615)(w:Int)(hw:w=32\/w=64)(s:Nat)(hs:(s:Int)<w)(hi:i<64):
  tb (Ap ((Ap x w*2 ^ s) % 18446744073709551616) w) i=qL x (JB 6 w s i):=by
 obtain⟨n,rfl⟩:=cd h0;obtain⟨m,hm,hml,hmb⟩:=tY n Fn w hw;have e:((m:Int)*2 ^ s) % 18446744073709551616=(((m*2 ^ s) % 2 ^ 64:Nat):Int):=by rw[show((2:Int) ^ s)=((2 ^ s:Nat):Int)from by simp,<-Int.natCast_mul];omega
 rw[hm,e];obtain⟨m2,SG,_,Pv⟩:=tY ((m*2 ^ s) % 2 ^ 64) (Nat.mod_lt _ ST) w hw;rw[SG,iU _ hi,Pv,Nat.testBit_mod_two_pow,show m*2 ^ s=m <<< s from(Nat.shiftLeft_eq m s).symm,Nat.testBit_shiftLeft,hmb];rw[src6];simp only[hi,decide_true,Bool.true_and];by_cases hl:(i:Int)<w
 .by_cases Qj:s<=i
  .have h2:((i-s:Nat):Int)<w:=by omega
   rw[if_pos ⟨hl,Qj⟩];simp only[hl,Qj,h2,decide_true,Bool.true_and,qL,ge_iff_le];rw[iU _ Fn]
  .rw[if_neg (fun h=>Qj h.2)];simp[Qj,qL]
 .rw[if_neg (fun h=>hl h.1)];simp[hl,qL]
def ao1(x:Int)(h0:0<=x)(h1:x<=18446744073709551615)(w:Int)(hw:w=32\/w=64)(s:Nat)(hs:(s:Int)<w)(hi:i<64):
  tb (Ap (Ap x w / 2 ^ s) w) i=qL x (JB 7 w s i):=by
 obtain⟨n,rfl⟩:=cd h0;obtain⟨m,hm,hml,hmb⟩:=tY n Fn w hw;have e:(m:Int) / 2 ^ s=((m / 2 ^ s:Nat):Int):=by rw[show((2:Int) ^ s)=((2 ^ s:Nat):Int)from by simp,<-Int.natCast_ediv]
 rw[hm,e];have HQ:m / 2 ^ s<=m:=Nat.div_le_self _ _;obtain⟨m2,SG,_,Pv⟩:=tY (m / 2 ^ s) Fn w hw;rw[SG,iU _ hi,Pv,<-Nat.shiftRight_eq_div_pow,Nat.testBit_shiftRight,hmb];rw[src7];by_cases hl:((i+s:Nat):Int)<w
 .have h2:(i:Int)<w:=by omega
  have h3:((s+i:Nat):Int)<w:=Fn;rw[if_pos hl];simp only[h2,h3,decide_true,Bool.true_and,qL];rw[iU _ Fn,Nat.add_comm]
 .have h3:¬((s+i:Nat):Int)<w:=by omega
  rw[if_neg hl];simp only[h3,decide_false,aq,ap,qL]
def afi(x:Int)(h0:0<=x)(h1:x<=18446744073709551615)(w:Int)(hw:w=32\/w=64):(0<=eD (Ap x w) w/\eD (Ap x w) w<=18446744073709551615)/\∀j,j<64->tb (eD (Ap x w) w) j=tb x (if(j:Int)<w then j else(w-1).toNat):=by
 rcases hw with rfl|rfl
 .obtain⟨n,rfl⟩:=cd h0;have hz:eD (Ap (n:Int) 32) 32=(((if n % 2 ^ 32<2 ^ 31 then n % 2 ^ 32 else 2 ^ 32*(2 ^ 32-1)+n % 2 ^ 32):Nat):Int):=by
   rw[dK];unfold eD JS;rw[if_neg ST,if_neg ST,if_pos rfl];by_cases hc:n % 2 ^ 32<2 ^ 31
   .rw[if_pos hc,if_pos Fn];omega
   .rw[if_neg hc,if_neg Fn];omega
  refine⟨by rw[hz];split<;>omega,fun j hj=> ?_⟩;rw[hz,iU _ hj];have hb:(n % 2 ^ 32).testBit 31=decide (2 ^ 31<=n % 2 ^ 32):=by rw[Nat.testBit_eq_decide_div_mod_eq,decide_eq_decide];omega
  by_cases hc:n % 2 ^ 32<2 ^ 31
  .rw[if_pos hc,Nat.testBit_mod_two_pow];by_cases hl:(j:Int)<32
   .rw[if_pos hl,iU _ hj];simp[show j<32 from by omega]
   .rw[if_neg hl,iU _ ST];have h31:n.testBit 31=ZC:=by
     have:=Nat.testBit_mod_two_pow n 32 31;rw[hb]at this;simp at this;have h2:¬2 ^ 31<=n % 2 ^ 32:=Fn;simpa[h2]using this.symm
    simp[show¬j<32 from by omega,h31]
  .rw[if_neg hc,Nat.testBit_two_pow_mul_add _ (Nat.mod_lt _ ST)];by_cases hl:(j:Int)<32
   .rw[if_pos hl,if_pos Fn,Nat.testBit_mod_two_pow,iU _ hj];simp[show j<32 from by omega]
   .rw[if_neg hl,if_neg Fn,iU _ ST,Nat.testBit_two_pow_sub_one];have h31:n.testBit 31=ZB:=by
     have:=Nat.testBit_mod_two_pow n 32 31;rw[hb]at this;have h2:2 ^ 31<=n % 2 ^ 32:=Fn;simpa[h2]using this.symm
    rw[show(32-1:Int).toNat=31 from rfl,h31];exact dg Fn
 .rw[dJ];have hz:eD x 64=x:=by simp[eD]
  rw[hz];exact⟨⟨h0,h1⟩,fun j hj=>by rw[if_pos Fn]⟩
def akc(x:Int)(h0:0<=x)(h1:x<=18446744073709551615)(w:Int)(hw:w=32\/w=64)(s:Nat)(hs:(s:Int)<w)(hi:i<64):
  tb (Ap ((wrap64 (eD (Ap x w) w) / 2 ^ s) % 18446744073709551616) w) i=qL x (JB 12 w s i):=by
 obtain⟨⟨z0,z1⟩,hb⟩:=afi x h0 h1 w hw;have hwl:w<=64:=Fn;rw[Vm Fn Fn hw hi];have e1:wrap64 (eD (Ap x w) w)=(ZL 64 (eD (Ap x w) w)).toInt:=by rw[BitVec.toInt_ofInt,Pr,Int.bmod_def];simp only[Nat.reducePow];split<;>omega
 have e2:tb ((wrap64 (eD (Ap x w) w) / 2 ^ s) % 18446744073709551616) i=((ZL 64 (eD (Ap x w) w)).sshiftRight s).getLsbD i:=by
  unfold tb;have:ZL 64 ((wrap64 (eD (Ap x w) w) / 2 ^ s) % 18446744073709551616)=(ZL 64 (eD (Ap x w) w)).sshiftRight s:=by rw[show∀z:Int,ZL 64 (z % 18446744073709551616)=ZL 64 z from fun z=>by rw[<-aT,dj],e1];rw[BitVec.sshiftRight,Int.shiftRight_eq_div_pow];simp
  rw[this]
 rw[e2,BitVec.getLsbD_sshiftRight];rw[auC];have hn:¬64<=i:=Fn;by_cases hl:(i:Int)<w
 .rw[if_pos hl];simp only[hl,hn,decide_true,decide_false,Bool.not_false,Bool.true_and,qL];by_cases h2:((i+s:Nat):Int)<w
  .rw[if_pos h2,if_pos Fn];have:=hb (s+i) Fn;rw[if_pos Fn]at this;rw[Nat.add_comm i s];exact this
  .rw[if_neg h2];by_cases h3:s+i<64
   .rw[if_pos h3];have:=hb (s+i) h3;rwa [if_neg Fn]at this
   .rw[if_neg h3,BitVec.msb_eq_getLsbD_last];have:=hb 63 ST;rw[show 64-1=63 from rfl];rw[show(ZL 64 (eD (Ap x w) w)).getLsbD 63=tb (eD (Ap x w) w) 63 from rfl,this];rcases hw with rfl|rfl
    .rfl
    .rfl
 .rw[if_neg hl];simp[hl,qL]
def afn(Ad:op=6\/op=7\/op=12)(hw:w=32\/w=64){q:Int}(h0:0<=x)(h1:x<=18446744073709551615){s:Nat}(hs:(s:Int)<w)(hq:Ap q w % w=s)(hi:i<64):
  tb (BD op w x q) i=qL x (JB op w s i):=by
 unfold BD;rw[hq];rcases Ad with rfl|rfl|rfl
 .have e:BR 6 w (Ap x w) (Ap q w) s=(Ap x w*2 ^ s) % 18446744073709551616:=by simp[BR]
  rw[e];exact ao2 x h0 h1 w hw s hs hi
 .have e:BR 7 w (Ap x w) (Ap q w) s=Ap x w / 2 ^ s:=by simp[BR]
  rw[e];exact ao1 x h0 h1 w hw s hs hi
 .have e:BR 12 w (Ap x w) (Ap q w) s=(wrap64 (eD (Ap x w) w) / 2 ^ s) % 18446744073709551616:=by simp[BR]
  rw[e];exact akc x h0 h1 w hw s hs hi
def arM(hw:w=32\/w=64){s j:Nat}(h:JB op w s i=ZA j):j<64:=by
 unfold JB at h
 repeat' split at h
 all_goals (simp at h;try omega)
def sH(a b:Int)(hw:w=32\/w=64):Ap (BD op w a b) w=BD op w a b:=aji op w a b
def akD(hw:w=32\/w=64)(h0:0<=x)(h1:x<=18446744073709551615):bits .and .u64 x (w-1)=x % w:=by
 rcases hw with rfl|rfl
 .exact are x h0 h1
 .exact ard x h0 h1
def aix(hw:w=32\/w=64)(x:Int):Ap x w % w=x % w:=by
 rcases hw with rfl|rfl
 .rw[dK];omega
 .rw[dJ]
def ahj{b:Kn}(hb:b.wf){q:Int}(hq:AX b q=ZB)(q0:0<=q)(q1:q<=18446744073709551615)(hw:w=32\/w=64)(hk:(bits .and .u64 b.m (w-1)==0)=ZB):
  bits .and .u64 b.v (w-1)=q % w:=by
 rw[<-akD hw q0 q1];apply VU (iF _ _) (iF _ _);intro i hi;have h1:=(bh hb q).1 hq i hi;have h2:=(xX (iF _ _) mV).1 hk i hi;rw[jE,hZ]at h2;rw[jE,jE];revert h1 h2;cases tb b.v i<;>cases tb b.m i<;>cases tb q i<;>cases tb (w-1) i<;>simp
def apA(hw:w=32\/w=64)(q:Int):∃s:Nat,q % w=s/\(s:Int)<w:=by
 have h:0<=q % w/\q % w<w:=by rcases hw with rfl|rfl<;>omega
 exact⟨(q % w).toNat,by omega,by omega⟩
def px(hw:w=32\/w=64){a b:Kn}(ha:a.wf)(hb:b.wf){p q:Int}(p0:0<=p/\p<=18446744073709551615)(q0:0<=q/\q<=18446744073709551615)(Ad:op=6\/op=7\/op=12)
  (key:∀r:Int,(0<=r/\r<=18446744073709551615)->AX (Dl op w a b) r=ZB->Ap r w=BD op w p q->AX (B5 (Dl op w a b) w) (BD op w p q)=ZB) (hp:AX a p=ZB) (hq:AX b q=ZB):
  AX (B5 (Dl op w a b) w) (BD op w p q)=ZB:=by
 refine key (BD op w p q) (ey _ _ _ _ p0.1 p0.2 q0.1 q0.2) ?_ (sH _ _ hw);by_cases hk:(bits .and .u64 b.m (w-1)==0)=ZB
 .have e:Dl op w a b=Uj op w a b:=by
   unfold Dl;rcases Ad with rfl|rfl|rfl<;>simp only[show¬(6:Int)=0 from by decide,show¬(6:Int)=1 from by decide,show¬(6:Int)=4 from by decide,show¬(6:Int)=5 from by decide,show¬(7:Int)=0 from by decide,show¬(7:Int)=1 from by decide,show¬(7:Int)=4 from by decide,show¬(7:Int)=5 from by decide,show¬(12:Int)=0 from by decide,show¬(12:Int)=1 from by decide,show¬(12:Int)=4 from by decide,show¬(12:Int)=5 from by decide,if_false,if_pos hk,true_or,or_true,if_true]
  rw[e];unfold Uj;have hs:=iF b.v (w-1);rw[gg (ey _ _ _ _ ha.2.1 ha.2.2 hs.1 hs.2)];obtain⟨s,hsq,P9⟩:=apA hw q;have hl:=ahj hb hq q0.1 q0.2 hw hk;have Rd:Ap (bits .and .u64 b.v (w-1)) w % w=s:=by rw[aix hw,hl,hsq];exact Int.emod_eq_of_lt Fn P9
  have hmq:Ap q w % w=s:=by rw[aix hw,hsq]
  intro i hi hm;rw[afn Ad hw ha.2.1 ha.2.2 P9 Rd hi]at hm;rw[afn Ad hw p0.1 p0.2 P9 hmq hi,afn Ad hw ha.1.1 ha.1.2 P9 Rd hi];cases hsrc:JB op w s i with
  |none=>rfl
  |some j=>rw[hsrc]at hm;have hj:=arM hw hsrc;have h1:=((bh ha p).1 hp j hj).2;have h2:tb a.m j=ZC:=hm;rw[h2]at h1;have h3:tb p j=tb a.v j:=XE;exact h3
 .have e:Dl op w a b=kall:=by
   unfold Dl;rcases Ad with rfl|rfl|rfl<;>simp only[show¬(6:Int)=0 from by decide,show¬(6:Int)=1 from by decide,show¬(6:Int)=4 from by decide,show¬(6:Int)=5 from by decide,show¬(7:Int)=0 from by decide,show¬(7:Int)=1 from by decide,show¬(7:Int)=4 from by decide,show¬(7:Int)=5 from by decide,show¬(12:Int)=0 from by decide,show¬(12:Int)=1 from by decide,show¬(12:Int)=4 from by decide,show¬(12:Int)=5 from by decide,if_false,if_neg hk,true_or,or_true,if_true]
  rw[e];exact mG _
def ap7(h0:0<=op)(Jb:op<=12)(hw:w=32\/w=64){a b:Kn}(ha:a.wf)(hb:b.wf){p q:Int}(hp:AX a p=ZB)(hq:AX b q=ZB)
  (p0:0<=p/\p<=18446744073709551615) (q0:0<=q/\q<=18446744073709551615) (pc:Ap p w=p) (qc:Ap q w=q):
  AX (B5 (Dl op w a b) w) (BD op w p q)=ZB:=by
 have hwf:=alS ha hb op w;have key:∀r:Int,(0<=r/\r<=18446744073709551615)->AX (Dl op w a b) r=ZB->Ap r w=BD op w p q->AX (B5 (Dl op w a b) w) (BD op w p q)=ZB:=fun r hr h e=>by rw[<-e];exact oK hwf hr h hw
 have hz:BD op w p q=Ap (BR op w p q (q % w)) w:=by unfold BD;rw[pc,qc]
 rcases tV h0 Jb with rfl|rfl|rfl|rfl|rfl|rfl|rfl|rfl|rfl|rfl|rfl|rfl|rfl
 ·
  refine key ((p+q) % 18446744073709551616) Fn ?_ (by rw[hz];simp[BR]);have e:Dl 0 w a b=JG a b:=by simp[Dl]
  rw[e];unfold JG;rw[gg (iO _ _)];intro i hi hm;obtain⟨_,_,h⟩:=ap9 ha hb hp hq hi hm;have e1:tb ((p+q) % 18446744073709551616) i=tb (p+q) i:=by unfold tb;rw[<-aT,dj]
  have e2:tb (ZG .u64 (a.v+b.v)) i=tb (a.v+b.v) i:=by unfold tb;rw[dj]
  rw[e1,e2,h]
 ·
  refine key ((p-q) % 18446744073709551616) Fn ?_ (by rw[hz];simp[BR]);have e:Dl 1 w a b=Gl a b:=by simp[Dl]
  rw[e];unfold Gl;rw[gg (iO _ _)];intro i hi hm;obtain⟨_,_,h⟩:=aho ha hb hp hq hi hm;have e1:tb ((p-q) % 18446744073709551616) i=tb (p-q) i:=by unfold tb;rw[<-aT,dj]
  have e2:tb (ZG .u64 (a.v-b.v)) i=tb (a.v-b.v) i:=by unfold tb;rw[dj]
  rw[e1,e2,h]
 .have e:Dl 2 w a b=kall:=by simp[Dl]
  refine key (BD 2 w p q) (ey _ _ _ _ p0.1 p0.2 q0.1 q0.2) (by rw[e];exact mG _) (sH _ _ hw)
 .have e:Dl 3 w a b=kall:=by simp[Dl]
  refine key (BD 3 w p q) (ey _ _ _ _ p0.1 p0.2 q0.1 q0.2) (by rw[e];exact mG _) (sH _ _ hw)
 ·
  have e:Dl 4 w a b=kor a b:=by simp[Dl]
  refine key (bits .or .u64 p q) (iO _ _) ?_ (by rw[hz,u64_or _ _ p0.1 Fn q0.1 Fn];simp[BR]);rw[e,bh ⟨iO _ _,eo _ _⟩];intro i hi;have h1:=(bh ha p).1 hp i hi;have h2:=(bh hb q).1 hq i hi;show(tb (bits .or .u64 a.v b.v) i&&tb (bits .andNot .u64 (bits .or .u64 a.m b.m) (bits .or .u64 a.v b.v)) i)=ZC/\(tb (bits .or .u64 p q) i &&!tb (bits .andNot .u64 (bits .or .u64 a.m b.m) (bits .or .u64 a.v b.v)) i)=tb (bits .or .u64 a.v b.v) i;rw[cz _ _ hi,fE,fE,fE];revert h1 h2;cases tb a.v i<;>cases tb a.m i<;>cases tb b.v i<;>cases tb b.m i<;>cases tb p i<;>cases tb q i<;>simp
 ·
  have e:Dl 5 w a b=OF a b:=by simp[Dl]
  refine key (bits .and .u64 p q) (iF _ _) ?_ (by rw[hz,u64_and _ _ p0.1 Fn q0.1 Fn];simp[BR]);rw[e,bh ⟨iF _ _,eo _ _⟩];intro i hi;have h1:=(bh ha p).1 hp i hi;have h2:=(bh hb q).1 hq i hi;show(tb (bits .and .u64 a.v b.v) i&&tb (bits .andNot .u64 (bits .and .u64 (bits .or .u64 a.v a.m) (bits .or .u64 b.v b.m)) (bits .and .u64 a.v b.v)) i)=ZC/\(tb (bits .and .u64 p q) i &&!tb (bits .andNot .u64 (bits .and .u64 (bits .or .u64 a.v a.m) (bits .or .u64 b.v b.m)) (bits .and .u64 a.v b.v)) i)=tb (bits .and .u64 a.v b.v) i;rw[cz _ _ hi,jE,jE,jE,fE,fE];revert h1 h2;cases tb a.v i<;>cases tb a.m i<;>cases tb b.v i<;>cases tb b.m i<;>cases tb p i<;>cases tb q i<;>simp
 .exact px hw ha hb p0 q0 (.inl rfl) key hp hq
 .exact px hw ha hb p0 q0 (.inr (.inl rfl)) key hp hq
 ·
  have e:Dl 8 w a b=Gl (Eu 0) a:=by simp[Dl]
  refine key ((0-p) % 18446744073709551616) Fn ?_ (by rw[hz];simp[BR]);rw[e];unfold Gl;rw[gg (iO _ _)];intro i hi hm;obtain⟨_,_,h⟩:=aho (sP mV) ha (um mV) hp hi hm;have e1:tb ((0-p) % 18446744073709551616) i=tb (0-p) i:=by unfold tb;rw[<-aT,dj]
  have e2:tb (ZG .u64 ((Eu 0).v-a.v)) i=tb ((Eu 0).v-a.v) i:=by unfold tb;rw[dj]
  rw[e1,e2,h]
 .have e:Dl 9 w a b=kall:=by simp[Dl]
  refine key (BD 9 w p q) (ey _ _ _ _ p0.1 p0.2 q0.1 q0.2) (by rw[e];exact mG _) (sH _ _ hw)
 ·
  have e:Dl 10 w a b=L7 a b:=by simp[Dl]
  refine key (bits .xor .u64 p q) (rh _ _) ?_ (by rw[hz,u64_xor _ _ p0.1 Fn q0.1 Fn];simp[BR]);rw[e];unfold L7;rw[gg (iO _ _)];intro i hi hm;have h1:=(bh ha p).1 hp i hi;have h2:=(bh hb q).1 hq i hi;rw[fE]at hm;rw[lZ,lZ];revert h1 h2 hm;cases tb a.v i<;>cases tb a.m i<;>cases tb b.v i<;>cases tb b.m i<;>cases tb p i<;>cases tb q i<;>simp
 .have e:Dl 11 w a b=b:=by simp[Dl]
  refine key q q0 (by rw[e];exact hq) (by rw[hz];simp[BR])
 .exact px hw ha hb p0 q0 (.inr (.inr rfl)) key hp hq
def vE{a:Kn}(ha:a.wf){p:Int}(hp:AX a p=ZB)(p0:0<=p/\p<=18446744073709551615)(hm:a.m=0):a.v=p:=by apply VU ha.1 p0;intro i hi;have h:=((bh ha p).1 hp i hi).2;rw[hm,hZ]at h;simpa using h.symm
def akH{a b:Kn}(h1:Bv a=ZB)(h2:Bv b=ZB)(h3:0<=op)(h4:op<=12)(h5:w=32\/w=64):dX op w a b=ZB:=by
 have:fB w=ZB:=by rcases h5 with rfl|rfl<;>rfl
 simp[dX,h1,h2,h3,h4,this]
def ahA(h0:0<=op)(Jb:op<=12)(hw:w=32\/w=64){a b:Kn}(ha:a.wf)(hb:b.wf){p q:Int}(hp:AX a p=ZB)(hq:AX b q=ZB)(p0:0<=p/\p<=18446744073709551615)(q0:0<=q/\q<=18446744073709551615):AX (Jj op w a b) (BD op w p q)=ZB:=by
 have hA:=oK ha p0 hp hw;have hB:=oK hb q0 hq hw;have hP:=de p w p0.1 p0.2;have hQ:=de q w q0.1 q0.2;have wA:=jw ha w;have wB:=jw hb w;rw[<-zD,Jj,if_pos (akH (kH hp) (kH hq) h0 Jb hw)];split
 next hm=>rw[or_zero wA.2.1 wA.2.2 wB.2.1 wB.2.2,ne,cL,cL]at hm;rw[vE wA hA hP hm.1,vE wB hB hQ hm.2];exact um (ey _ _ _ _ hP.1 hP.2 hQ.1 hQ.2)
 .exact ap7 h0 Jb hw wA wB hA hB hP hQ (ju _ _) (ju _ _)
def abG{a b:Kn}(hb:b.wf):Ky a b=ZB↔Bv a=ZB/\Bv b=ZB/\∀i,i<64->tb b.m i=ZC->tb a.m i=ZC/\tb a.v i=tb b.v i:=by
 rw[ahw hb,eN,eN];constructor
 .intro h;refine⟨fun i hi=>(h i hi).1,fun i hi=>(h i hi).2.1,fun i hi hm=> ?_⟩;have:=h i hi;revert this hm;cases tb a.v i<;>cases tb a.m i<;>cases tb b.v i<;>cases tb b.m i<;>simp
 .rintro ⟨h1,h2,h3⟩ i hi;have a1:=h1 i hi;have a2:=h2 i hi;have a3:=h3 i hi;revert a1 a2 a3;cases tb a.v i<;>cases tb a.m i<;>cases tb b.v i<;>cases tb b.m i<;>simp
def wT{a:Kn}(ha:a.wf)(x:Int):AX a x=ZB↔Bv a=ZB/\∀i,i<64->tb a.m i=ZC->tb x i=tb a.v i:=by
 rw[bh ha,eN];constructor
 .intro h;refine⟨fun i hi=>(h i hi).1,fun i hi hm=> ?_⟩;have:=h i hi;revert this hm;cases tb a.v i<;>cases tb a.m i<;>cases tb x i<;>simp
 .rintro ⟨h1,h2⟩ i hi;have a1:=h1 i hi;have a2:=h2 i hi;revert a1 a2;cases tb a.v i<;>cases tb a.m i<;>cases tb x i<;>simp
def ahx{a b:Kn}(ha:a.wf)(hb:b.wf)(h:Ky a b=ZB)(hz:AX a z=ZB):AX b z=ZB:=by obtain⟨h1,h2,h3⟩:=(abG hb).1 h;obtain⟨_,h4⟩:=(wT ha z).1 hz;rw[wT hb];exact⟨h2,fun i hi hm=>(h4 i hi (h3 i hi hm).1).trans (h3 i hi hm).2⟩
def abE{a b:Kn}(h1:Bv a=ZB)(h2:Bv b=ZB):jq a b=jZ a.v (bits .or .u64 (bits .or .u64 a.m b.m) (bits .xor .u64 a.v b.v)):=by simp[jq,h1,h2]
def abF{a:Kn}(hm:0<=m/\m<=18446744073709551615)(h1:Bv a=ZB)(h:∀i,i<64->tb m i=ZC->tb a.m i=ZC/\tb a.v i=tb v i):Ky a (jZ v m)=ZB:=by rw[abG (eJ hm)];refine⟨h1,wR _ _,fun i hi h0=> ?_⟩;have h0':tb m i=ZC:=h0;obtain⟨g1,g2⟩:=h i hi h0';refine⟨g1,?_⟩;show _=tb (bits .andNot .u64 v m) i;rw[cz _ _ hi,h0',g2];simp
def ahv{a b:Kn}(h1:Bv a=ZB)(h2:Bv b=ZB):Ky a (jq a b)=ZB:=by rw[abE h1 h2];refine abF (iO _ _) h1 (fun i hi h=> ?_);rw[fE,fE,lZ]at h;revert h;cases tb a.v i<;>cases tb a.m i<;>cases tb b.v i<;>cases tb b.m i<;>simp
def ahu{a b:Kn}(h1:Bv a=ZB)(h2:Bv b=ZB):Ky b (jq a b)=ZB:=by rw[abE h1 h2];refine abF (iO _ _) h2 (fun i hi h=> ?_);rw[fE,fE,lZ]at h;revert h;cases tb a.v i<;>cases tb a.m i<;>cases tb b.v i<;>cases tb b.m i<;>simp
def ahr{a b:Kn}(ha:a.wf)(hb:b.wf)(h:eA a b=ZB)(z:Int):AX (jp a b) z=(AX a z&&AX b z):=by
 have hm:=(rM a b).1 h;rw[aj,ne,bh ha,bh hb];have e:jp a b=jZ (bits .or .u64 a.v b.v) (bits .and .u64 a.m b.m):=by simp[jp,h]
 rw[e,gg (iF _ _)];constructor
 .intro g;constructor
  .intro i hi;have g1:=g i hi;have g2:=hm i hi;rw[jE,fE]at g1;revert g1 g2;cases tb a.v i<;>cases tb a.m i<;>cases tb b.v i<;>cases tb b.m i<;>cases tb z i<;>simp
  .intro i hi;have g1:=g i hi;have g2:=hm i hi;rw[jE,fE]at g1;revert g1 g2;cases tb a.v i<;>cases tb a.m i<;>cases tb b.v i<;>cases tb b.m i<;>cases tb z i<;>simp
 .rintro ⟨g1,g2⟩ i hi h0;have a1:=g1 i hi;have a2:=g2 i hi;rw[jE]at h0;rw[fE];revert a1 a2 h0;cases tb a.v i<;>cases tb a.m i<;>cases tb b.v i<;>cases tb b.m i<;>cases tb z i<;>simp
def ac2{a b:Kn}(ha:a.wf)(hb:b.wf)(h:eA a b=ZC)(z:Int):(AX a z&&AX b z)=ZC:=by
 cases hz:(AX a z&&AX b z)
 .rfl
 .exfalso;rw[ne]at hz;have g1:=(bh ha z).1 hz.1;have g2:=(bh hb z).1 hz.2;have:eA a b=ZB:=by
   rw[rM];intro i hi;have a1:=g1 i hi;have a2:=g2 i hi;revert a1 a2;cases tb a.v i<;>cases tb a.m i<;>cases tb b.v i<;>cases tb b.m i<;>cases tb z i<;>simp
  rw[h]at this;cases this
def akI{r:Rg}(hr:r.wf)(z0:r.ul<=z)(z1:z<=r.uh):AX (Gf r) z=ZB:=by
 obtain⟨⟨l0,l1⟩,⟨u0,u1⟩,_⟩:=hr;have hx:=rh r.ul r.uh;obtain⟨n,hn⟩:∃n,ax (bits .xor .u64 r.ul r.uh).toNat=n:=⟨_,rfl⟩
 have HQ:n<=64:=by rw[<-hn];exact gz Fn
 have Jv:r.ul / 2 ^ n=r.uh / 2 ^ n:=by
  refine(ab8 r.ul r.uh n HQ l0 l1 u0 u1).1 ?_;have As:=qH (bits .xor .u64 r.ul r.uh).toNat;rw[hn]at As;obtain⟨x,F9⟩:=cd hx.1;rw[F9]at As hx ⊢;have hq:1<=(2:Nat) ^ n:=Nat.one_le_two_pow;have hp:(2:Nat) ^ n<=2 ^ 64:=ZV Fn HQ;rw[show((2:Int) ^ n-1)=((2 ^ n-1:Nat):Int)from by rw[Int.ofNat_sub hq];simp,u64_andNot_nat x (2 ^ n-1) Fn Fn];have h6:=(uG x n HQ Fn).2 (Nat.div_eq_of_lt (by simpa using As))
  exact_mod_cast h6
 have hz:z / 2 ^ n=r.ul / 2 ^ n:=by have hp:(0:Int)<2 ^ n:=Int.pow_pos Fn;have g1:=Int.ediv_le_ediv hp z0;have g2:=Int.ediv_le_ediv hp z1;omega
 have hd:=(ab8 z r.ul _ HQ Fn Fn l0 l1).2 hz;have QN:=apz HQ;have hcv:Gf r=jZ r.ul (2 ^ n-1):=by unfold Gf kW;rw[hn]
 rw[hcv,gg (by generalize (2:Int) ^ n=x at *;omega)];intro i Bq hm;have h5:=(xX (eo _ _) mV).1 (cL.2 hd) i Bq;rw[cz _ _ Bq,lZ,hZ,hm]at h5;revert h5;cases tb z i<;>cases tb r.ul i<;>simp
def adN{k:Kn}(hk:k.wf):(MU k).wf:=⟨hk.1,iO _ _,by simp[MU,ball],by simp[MU,ball]⟩
def asw{k:Kn}(hk:k.wf)(hx:0<=x/\x<=18446744073709551615)(h:AX k x=ZB):AF (MU k) x=ZB:=by have A:=mU hk h;have h1:=A.low.mod 64;have h2:=A.high.mod 64;rw[<-atZ]at h2;have e1:=mP hk.1.1 hk.1.2;have e2:=mP hx.1 hx.2;have e3:=mP (iO k.v k.m).1 (iO k.v k.m).2;rw[Nat.mod_eq_of_lt (BitVec.isLt _),Nat.mod_eq_of_lt (BitVec.isLt _)]at h1 h2;rw[aM];have:=fV x;show k.v<=x/\x<=bits .or .u64 k.v k.m /\ -9223372036854775808<=BZ x/\BZ x<=9223372036854775807;omega
def sS{a b:Rg}(ha:a.wf)(hb:b.wf):(jr a b).wf:=by
 unfold jr;split
 .exact sR (sO ha hb)
 .exact fi
def sQ(a b:Kn):(jp a b).wf:=by
 unfold jp;split
 .exact eJ (iF _ _)
 .exact jx
def aoq{r:Rg}(hr:r.wf):(Gf r).wf:=eJ (uE (rh _ _).2)
def jh{r:Rg}{k:Kn}(hr:r.wf)(hk:k.wf):(sc r k).wf:=⟨hr,hk⟩
def Xi{a:Sc}(ha:a.wf):(Js a).wf:=jh (sS ha.r (adN ha.k)) (sQ _ _)
def sN:vall.wf:=jh fi jx
def pi{a:Sc}(ha:a.wf):(Cf a).wf:=by
 unfold Cf;split
 .exact Xi (Xi ha)
 .exact sN
def fj{a:Sc}(h1:AF a.r x=ZB)(h2:AX a.k x=ZB):A2 a x=ZB:=by unfold A2 Bf;rw[cW h1,kH h2,h1,h2];rfl
def fw{a:Sc}(h:A2 a x=ZB):AF a.r x=ZB:=by unfold A2 at h;simp only[ne]at h;exact h.2.1
def fO{a:Sc}(h:A2 a x=ZB):AX a.k x=ZB:=by unfold A2 at h;simp only[ne]at h;exact h.2.2
def eK{a:Sc}(h:A2 a x=ZB):Bf a=ZB:=by unfold A2 at h;rw[ne]at h;exact h.1
def wQ{a b:Kn}(ha:a.wf)(hb:b.wf)(h1:AX a z=ZB)(h2:AX b z=ZB):eA a b=ZB/\AX (jp a b) z=ZB:=by
 cases h:eA a b
 .have:=ac2 ha hb h z;rw[h1,h2]at this;cases this
 .exact⟨rfl,by rw[ahr ha hb h z,h1,h2];rfl⟩
def aiO{a b:Rg}(ha:a.wf)(hb:b.wf)(hz:0<=z/\z<=18446744073709551615)(h1:AF a z=ZB)(h2:AF b z=ZB):fh a b=ZB/\AF (jr a b) z=ZB:=by have h:=abO ha hb hz.1 hz.2 h2;rw[h1]at h;have h:=h.symm;rw[ne]at h;exact h
def adX{a:Sc}(ha:a.wf)(hx:0<=x/\x<=18446744073709551615)(h:A2 a x=ZB):LP a=ZB/\L8 a=ZB/\A2 (Js a) x=ZB:=by have h1:=aiO ha.r (adN ha.k) hx (fw h) (asw ha.k hx (fO h));have hw:=sS ha.r (adN ha.k);have hb:=(aM _ _).1 h1.2;have h2:=wQ ha.k (aoq hw) (fO h) (akI hw hb.1 hb.2.1);exact⟨h1.1,h2.1,fj (a:=Js a) h1.2 h2.2⟩
def gG{a:Sc}(ha:a.wf)(hx:0<=x/\x<=18446744073709551615)(h:A2 a x=ZB):Db a=ZB/\A2 (Cf a) x=ZB:=by obtain⟨h1,h2,h3⟩:=adX ha hx h;obtain⟨g1,g2,g3⟩:=adX (Xi ha) hx h3;have e:=Sx (eK h) h1 h2 g1 g2;exact⟨e.2,by rw[e.1];exact g3⟩
def xJ{a b:Rg}(ha:a.wf)(hb:b.wf):(C7 cc a b).wf:=by
 unfold C7;split
 .rename_i hk;have hg:=alG hk;unfold CN at hk;rw[hg,Bool.true_and]at hk;unfold jt at hg;simp only[ne]at hg;by_cases c:cc=0
  .rw[if_pos c];exact sS ha hb
  .rw[if_neg c]at hk ⊢;rw[ne]at hk;exact sR (adP ha hb hg.1 hg.2.1 hk.1)
 .exact fi
def aju{a b:Sc}(ha:a.wf)(hb:b.wf)(hv:0<=v/\v<=18446744073709551615)(hx:0<=x/\x<=18446744073709551615)(h1:A2 a v=ZB)(h2:A2 b x=ZB)(hc:DY cc 64=ZB)(hy:lP cc 64 v x=ZB):DI cc a b=ZB/\A2 (Ej cc a b) v=ZB:=by
 unfold DY at hc;simp only[ne,aB]at hc;have hy:=xD hy;have hg:=aqN ha.r hb.r hv.1 hv.2 hx.1 hx.2 (fw h1) (fw h2) hc.1.1 hc.1.2 hy;by_cases c:cc=0
 .have e:v=x:=by
   unfold zA at hy;rw[if_pos c]at hy;exact Ah hy
  subst e;have hk:=wQ ha.k hb.k (fO h1) (fO h2);have q:=Re (eK h1) (eK h2) hg.1 (cL.2 c) hk.1;rw[q.1,q.2];exact gG (jh (xJ ha.r hb.r) (sQ _ _)) hv (fj (a:=sc _ _) hg.2 hk.2)
 .have q:=Q4 (eK h1) (eK h2) hg.1 (beq_eq_false_iff_ne.2 c);rw[q.1,q.2];exact gG (jh (xJ ha.r hb.r) ha.k) hv (fj (a:=sc (C7 cc a.r b.r) a.k) hg.2 (fO (a:=a) h1))
def zI{a b:Rg}(ha:a.wf)(hb:b.wf):(js a b).wf:=by
 obtain⟨a1,a2,a3,a4⟩:=ha;obtain⟨b1,b2,b3,b4⟩:=hb;unfold js;split
 .unfold mR;refine⟨?_,?_,?_,?_⟩<;>simp only<;>omega
 .exact fi
def rO{a b:Kn}(ha:a.wf)(h1:AX a x=ZB)(h2:Bv b=ZB):AX (jq a b) x=ZB:=ahx ha (kv a b) (ahv (kH h1) h2) h1
def rN{a b:Kn}(hb:b.wf)(h1:Bv a=ZB)(h2:AX b x=ZB):AX (jq a b) x=ZB:=ahx hb (kv a b) (ahu h1 (kH h2)) h2
def zP{a:Sc}(h:Bf a=ZB):AS a.r=ZB:=by unfold Bf at h;rw[ne]at h;exact h.1
def zQ{a:Sc}(h:Bf a=ZB):Bv a.k=ZB:=by unfold Bf at h;rw[ne]at h;exact h.2
def adO{a b:Rg}(ha:a.wf):(Gs a b).wf:=by obtain⟨a1,a2,a3,a4⟩:=ha;unfold Gs;refine⟨?_,?_,?_,?_⟩<;>simp only<;>split<;>omega
def aop{a b:Rg}(ha:a.wf)(hb:b.wf)(hz:0<=z/\z<=18446744073709551615)(h:AF a z=ZB\/AF b z=ZB):AF (Gs a b) z=ZB:=by have hs:=fV z;obtain⟨a1,a2,a3,a4⟩:=ha;obtain⟨b1,b2,b3,b4⟩:=hb;rw[aM,aM]at h;rw[aM];unfold Gs;simp only[beq_eq_false_iff_ne,aB,ne_eq];refine⟨?_,?_,?_,?_⟩<;>split<;>omega
def uN{a b:Sc}(ha:a.wf)(hb:b.wf)(hz:0<=z/\z<=18446744073709551615)(ma:Bf a=ZB)(mb:Bf b=ZB)(h:A2 a z=ZB\/A2 b z=ZB):A2 (jA a b) z=ZB:=by
 unfold jA;rw[if_pos ⟨ma,mb⟩];refine(gG (jh (zI ha.r hb.r) (kv _ _)) hz ?_).2;rcases h with h|h
 .exact fj (a:=sc _ _) (ah2 (fw h) (zP mb)) (rO ha.k (fO h) (zQ mb))
 .exact fj (a:=sc _ _) (ah1 (zP ma) (fw h)) (rN hb.k (zQ ma) (fO h))
def zL{a b:Sc}(ha:a.wf)(hb:b.wf)(hz:0<=z/\z<=18446744073709551615)(ma:Bf a=ZB)(mb:Bf b=ZB)(h:A2 a z=ZB\/A2 b z=ZB):A2 (DC a b) z=ZB:=by
 unfold DC;rw[if_pos ⟨ma,mb⟩];refine(gG (jh (adO ha.r) (kv _ _)) hz ?_).2;refine fj (a:=sc _ _) (aop ha.r hb.r hz ?_) ?_
 .rcases h with h|h
  .exact .inl (fw h)
  .exact .inr (fw h)
 .rcases h with h|h
  .exact rO ha.k (fO h) (zQ mb)
  .exact rN hb.k (zQ ma) (fO h)
def xI{a:Rg}(ha:a.wf):(Dd a).wf:=by
 unfold Dd;split
 .exact ha
 .exact sR (pj Fn Fn Fn Fn)
def zR{a:Sc}(ha:a.wf)(hz:0<=z/\z<=18446744073709551615)(h:A2 a z=ZB):A2 (IS a) (Ap z 32)=ZB:=by refine(gG (jh (xI ha.r) (jw ha.k 32)) (de z 32 hz.1 hz.2) ?_).2;refine fj (a:=sc _ _) ?_ (oK ha.k hz (fO h) (.inl rfl));rw[dK];exact ah0 hz.1 (fw h)
def mZ{a:Sc}(ha:a.wf):(IS a).wf:=pi (jh (xI ha.r) (jw ha.k 32))
def yP(z0:0<=z)(z1:z<=4294967295):AF (Dd ball) z=ZB:=by have h:=ah0 z0 (kM z z0 Fn);rw[Int.emod_eq_of_lt z0 Fn]at h;exact h
def aiH{r:Rg}(h:AF r y=ZB)(e:y<=4294967295->y=z)(z0:0<=z)(z1:z<=4294967295):AF (K3 r) z=ZB:=by
 unfold K3;split
 .have:=(aM r y).1 h;rw[<-e Fn];exact h
 .exact yP z0 z1
def ach:AF (HG v) v=ZB:=by rw[aM];exact⟨Int.le_refl _,Int.le_refl _,Int.le_refl _,Int.le_refl _⟩
def alW(v:Int):(B8 v).r=HG v:=rfl
def acu{a:Sc}(ha:a.wf)(hy:0<=y/\y<=18446744073709551615)(h:A2 a y=ZB)(ho:xM a=ZB):jy a=y:=by unfold xM at ho;rw[ne]at ho;have e:=qF ho.2 hy.1 hy.2;rw[fw h]at e;have e:=Ah e.symm;unfold jy aC;rw[if_pos ho.1,if_pos ho.2,e]
def avV(h0:0<=op)(Jb:op<=12)(n8:op≠8)(n12:op≠12)(n6:op≠6)(n7:op≠7)(x0:0<=x)(x1:x<=4294967295)(y0:0<=y)(y1:y<=4294967295)(hs:BD op 64 x y<=4294967295):BD op 64 x y=BD op 32 x y:=by
 have hb:=(ey op 64 x y x0 Fn y0 Fn).1;unfold BD at hs hb ⊢;rw[dJ,dJ,dJ]at hs hb ⊢;rw[dK,dK,dK,Int.emod_eq_of_lt (b:=4294967296) x0 Fn,Int.emod_eq_of_lt (b:=4294967296) y0 Fn];have e:BR op 32 x y (y % 32)=BR op 64 x y (y % 64):=by
  unfold BR;by_cases c0:op=0
  .simp[c0]
  by_cases c1:op=1
  .simp[c1]
  by_cases c2:op=2
  .simp[c2]
  by_cases c3:op=3
  .simp[c3]
  by_cases c4:op=4
  .simp[c4]
  by_cases c5:op=5
  .simp[c5]
  by_cases c9:op=9
  .simp[c9]
  by_cases BF:op=10
  .simp[BF]
  obtain rfl:op=11:=Fn;simp
 rw[e,Int.emod_eq_of_lt hb Fn]
def avU(ho:op=6\/op=7)(x0:0<=x)(x1:x<=4294967295)(y0:0<=y)(y1:y<=4294967295)(hs:BD op 64 x (y % 32)<=4294967295):BD op 64 x (y % 32)=BD op 32 x y:=by
 have hb:=(ey op 64 x (y % 32) x0 Fn Fn Fn).1;unfold BD at hs hb ⊢;rw[dJ,dJ,dJ]at hs hb ⊢;rw[dK,dK,dK,Int.emod_eq_of_lt (b:=4294967296) x0 Fn,Int.emod_eq_of_lt (b:=4294967296) y0 Fn];have e:BR op 32 x y (y % 32)=BR op 64 x (y % 32) (y % 32 % 64):=by rw[Int.emod_eq_of_lt (a:=y % 32) (b:=64) Fn Fn];rcases ho with rfl|rfl<;>simp[BR]
 rw[e,Int.emod_eq_of_lt hb Fn]
def ale{a b:Sc}(ha:a.wf)(hb:b.wf)(h0:0<=op)(Jb:op<=12)(x0:0<=x)(x1:x<=4294967295)(y0:0<=y)(y1:y<=4294967295)(h1:A2 a x=ZB)(h2:A2 b y=ZB):AF (eR op a b) (BD op 32 x y)=ZB:=by
 have Hw:=(ey op 32 x y x0 Fn y0 Fn).1;have Ex:BD op 32 x y<=4294967295:=by unfold BD;rw[dK];omega
 unfold eR;by_cases c:op=8\/op=12
 .rw[if_pos c];exact yP Hw Ex
 rw[if_neg c];by_cases d:op=6\/op=7
 .rw[if_pos d];by_cases ho:xM b=ZB
  .rw[if_pos ho,acu hb ⟨y0,by omega⟩ h2 ho];have e:Ac .and .u64 y 31=y % 32:=are y y0 Fn;rw[e,alW];have hz:=ey op 64 x (y % 32) x0 Fn Fn Fn;exact aiH (ah3 ha.r (xH Fn Fn) x0 Fn Fn Fn (fw h1) ach hz.1 hz.2) (fun hs=>avU d x0 x1 y0 y1 hs) Hw Ex
  .rw[if_neg ho];exact yP Hw Ex
 .rw[if_neg d];have hz:=ey op 64 x y x0 Fn y0 Fn;exact aiH (ah3 ha.r hb.r x0 Fn y0 Fn (fw h1) (fw h2) hz.1 hz.2) (fun hs=>avV h0 Jb Fn Fn Fn Fn x0 x1 y0 y1 hs) Hw Ex
def ag5{l:Int}(h:Bs op l=ZB):0<=op/\op<=12/\(l=32\/l=64):=by unfold Bs fB at h;simp only[ne,aB,fk,cL]at h;exact⟨h.1.1,h.1.2,h.2⟩
section
variable {op l:Int}{a b:Kn}
end
def rf0(h0:0<=v)(h:v<=0):0=kW v:=by obtain rfl:v=0:=Fn;rfl
def rf{lo hi:Int}(k:Nat)(e1:lo=2 ^ k)(e2:hi=2 ^ (k+1)-1)(h1:lo<=v)(h2:v<=hi):hi=kW v:=by
 have p:(0:Int)<2 ^ k:=Int.pow_pos Fn;have q1:((2 ^ k:Nat):Int)=2 ^ k:=by simp
 have q2:((2 ^ (k+1):Nat):Int)=2 ^ (k+1):=by simp
 unfold kW;rw[aiR (n:=v.toNat) (c:=k) Fn Fn,e2]
section
variable {op:Int}{a b:Rg}(ha:a.ok)(hb:b.ok)(ma:AS a=ZB)(mb:AS b=ZB)
include ha hb
include ma mb
end
section
variable {a b:Rg}
end
def ass(k:q2)(h:p->q=q2:=by intro e;(try simp only[e,bN,-eq_self]);rfl):p->q:=fun e=>(h e).symm▸k
def aou:List (Nat×TI):=[(2,CB),
 (39,eX),
 (46,gZ)]
def uS:∀t i,(t,i)∈aou->TIok ZF t i:=bi B1 B1 (by kernel_rfl)
def c_rmay:Cd:=⟨138,[.agg kRg],[.one .bool],rd_Rg fun a _=>[.z (AE (AS a))],T0⟩
def afQ:Tr:=
(.br (.lt (.w 1) (.w 0))
zlF
(.u (.j (.not (.lt (.w 3) (.w 2))) .nil)))
def amK:c_rmay.Ok ZF:=
 AT afQ (v_Rg []) uS AI Tryz.func138<|du fun a ha hp U g=>by
 simp only[AJ,AB,ZD]at g;simp only[afQ,c_rmay,AJ,Ai,ZH,ZD,-eq_self,Rg.eta,g];apply aI<;>intro c0
 ·(unfold AS;simp_all [bD];try (intros;omega))
 ·(unfold AS;simp_all [bD];try (intros;omega))
def c_rhas:Cd:=⟨103,[.agg kRg,.one (.int .u64)],[.one .bool],rd_Rg fun a=>rdZ fun v _=>[.z (AE (AF a v))],T0⟩
def afR:Tr:=
(.call 0 [.bool] (.vs 0 4 .nil) 5
(.br (.s 5)
(.br (.lt (.w 4) (.w 0))
zlF
(.br (.lt (.w 1) (.w 4))
zlF
(.br (.lt (.F .i64 (.w 4)) (.w 2))
zlF
(.u (.j (.not (.lt (.w 3) (.F .i64 (.w 4)))) .nil)))))
zlF))
def as2:c_rhas.Ok ZF:=
 AT afR (v_Rg [.int .u64]) uS (Am amK AI) Tryz.func103<|du fun a ha=>fun v hv hp U g=>by
 simp only[AJ,AB,ZD]at g;simp only[afR,c_rmay,c_rhas,AJ,Ai,ZH,ZD,-eq_self,bN,g];refine ass ?_
 .repeat' first|apply aI<;>intro c|exact XF
def aua{r s:Sc}(h:r=s):[Dt.z r.ul,.z r.uh,.z r.sl,.z r.sh,.z r.v,.z r.m]=[Dt.z s.ul,.z s.uh,.z s.sl,.z s.sh,.z s.v,.z s.m]:=by rw[h]
def Dc(n:Int):Sc:=HD (2 ^ (8*(min (max n 1) 8).toNat)-1)
def zq(n:Int):min (max n 1) 8=1\/min (max n 1) 8=2\/min (max n 1) 8=3\/min (max n 1) 8=4\/min (max n 1) 8=5\/min (max n 1) 8=6\/min (max n 1) 8=7\/min (max n 1) 8=8:=by omega
end Go.Proofs.YtgolejfhoefeaaaGreatDoor
