import Derived.Test.YtfkhblmeioiciaaGreatDoorRows
import Derived.Test.YtfkhblmeioiciaaGreatDoorLib
import Derived.WalkKit
import Derived.WalkSpells
import Derived.WalkLawsBesides
import Derived.Laws.EntriesVeiled
set_option maxRecDepth 100000
set_option maxHeartbeats 8000000
set_option linter.defProp false
set_option linter.unusedVariables false
set_option linter.unusedSimpArgs false
namespace Go.Proofs.YtfkhblmeioiciaaGreatDoor
open Go.RowKit
def mz (a:Int):Bool:=a==32||a==64
def zcut (v a:Int):Int:=if a=8 then v % 256 else if a=16 then v % 65536 else if a=32 then v % 4294967296 else v
def zsgn (v b:Int):Int:=if v % (2*b)<b then v % (2*b) else 18446744073709551616-2*b+v % (2*b)
def ahf (v a:Int):Int:=if a=8 then zsgn v 128 else if a=16 then zsgn v 32768 else if a=32 then zsgn v 2147483648 else v
theorem aam (a:Int) (w:World):
  Calls Tryz.prog 63 #[.int .i8 a] w fun e w'=>e=.returned (.bool (mz a))/\w=w':=by
 go_enter Tryz.func63,Tryz.ntmps63
 go_wp2
 all_goals go_ret
 all_goals (refine⟨ajl ?_,rfl⟩;simp_all [mz])
theorem agM (v a:Int) (w:World) (h0:0<=v) (h1:v<=18446744073709551615):
  Calls Tryz.prog 64 #[.int .u64 v,.int .i8 a] w fun e w'=>e=.returned (.int .u64 (zcut v a))/\w=w':=by
 go_enter Tryz.func64,Tryz.ntmps64
 go_wp2
 all_goals go_ret
 all_goals (refine⟨be ?_,rfl⟩)
 all_goals (simp only[dl,beq_eq_false_iff_ne] at *;simp only[zcut,ao5,bg, *];first | rfl | (simp;done) | (simp;omega))
theorem ahS (v a:Int) (w:World) (h0:0<=v) (h1:v<=18446744073709551615):
  Calls Tryz.prog 124 #[.int .u64 v,.int .i8 a] w fun e w'=>e=.returned (.int .u64 (ahf v a))/\w=w':=by
 go_enter Tryz.func124,Tryz.ntmps124
 go_wp2
 all_goals go_ret
 all_goals (refine⟨be ?_,rfl⟩)
 all_goals (simp only[dl,beq_eq_false_iff_ne] at *;simp only[ahf,zsgn,ao5,bg,w_i8,arw,w_32,w_64, *];first | rfl | (simp;done) | (simp;split<;>omega))
theorem kz (v a:Int) (h0:0<=v) (h1:v<=18446744073709551615):0<=zcut v a/\zcut v a<=18446744073709551615:=by
 unfold zcut;split<;>(try split)<;>(try split)<;>omega
def eg:Array Value:= #[.func (.func 111) #[] #[],.func (.func 112) #[] #[],.func (.func 113) #[] #[],.func (.func 114) #[] #[],.func (.func 115) #[] #[],.func (.func 116) #[] #[],.func (.func 117) #[] #[],.func (.func 118) #[] #[],.func (.func 119) #[] #[],.func (.func 120) #[] #[],.func (.func 121) #[] #[],.func (.func 122) #[] #[],.func (.func 123) #[] #[]]
theorem an7 (w:World):
  Calls Tryz.prog 65 #[] w fun e w'=>e=.returned (.agg eg)/\Below w.heap.size w w':=by
 go_enter Tryz.func65,Tryz.ntmps65
 go_wp2
 exact bodyPost_ret (by simp[results,Tryz.results65,go_sem];rfl) rfl ⟨rfl,(Below.refl _ _).alloc (Nat.le_refl _) _⟩
theorem ix0 (W:World):(Instr.index 128 (.agg eg) (.int .i8 0)).run Tryz.prog W=.ok (.func (.func 111) #[] #[]) W:=by kernel_rfl
theorem ix1 (W:World):(Instr.index 128 (.agg eg) (.int .i8 1)).run Tryz.prog W=.ok (.func (.func 112) #[] #[]) W:=by kernel_rfl
theorem ix2 (W:World):(Instr.index 128 (.agg eg) (.int .i8 2)).run Tryz.prog W=.ok (.func (.func 113) #[] #[]) W:=by kernel_rfl
theorem ix3 (W:World):(Instr.index 128 (.agg eg) (.int .i8 3)).run Tryz.prog W=.ok (.func (.func 114) #[] #[]) W:=by kernel_rfl
theorem ix4 (W:World):(Instr.index 128 (.agg eg) (.int .i8 4)).run Tryz.prog W=.ok (.func (.func 115) #[] #[]) W:=by kernel_rfl
theorem ix5 (W:World):(Instr.index 128 (.agg eg) (.int .i8 5)).run Tryz.prog W=.ok (.func (.func 116) #[] #[]) W:=by kernel_rfl
theorem ix6 (W:World):(Instr.index 128 (.agg eg) (.int .i8 6)).run Tryz.prog W=.ok (.func (.func 117) #[] #[]) W:=by kernel_rfl
theorem ix7 (W:World):(Instr.index 128 (.agg eg) (.int .i8 7)).run Tryz.prog W=.ok (.func (.func 118) #[] #[]) W:=by kernel_rfl
theorem ix8 (W:World):(Instr.index 128 (.agg eg) (.int .i8 8)).run Tryz.prog W=.ok (.func (.func 119) #[] #[]) W:=by kernel_rfl
theorem ix9 (W:World):(Instr.index 128 (.agg eg) (.int .i8 9)).run Tryz.prog W=.ok (.func (.func 120) #[] #[]) W:=by kernel_rfl
theorem ix10 (W:World):(Instr.index 128 (.agg eg) (.int .i8 10)).run Tryz.prog W=.ok (.func (.func 121) #[] #[]) W:=by kernel_rfl
theorem ix11 (W:World):(Instr.index 128 (.agg eg) (.int .i8 11)).run Tryz.prog W=.ok (.func (.func 122) #[] #[]) W:=by kernel_rfl
theorem ix12 (W:World):(Instr.index 128 (.agg eg) (.int .i8 12)).run Tryz.prog W=.ok (.func (.func 123) #[] #[]) W:=by kernel_rfl
def zop (op w a b y:Int):Int:=
 if op=0 then(a+b) % 18446744073709551616
 else if op=1 then(a-b) % 18446744073709551616
 else if op=2 then(a*b) % 18446744073709551616
 else if op=3 then(if b=0 then 0 else a / b)
 else if op=4 then((a.toNat ||| b.toNat:Nat):Int)
 else if op=5 then((a.toNat &&& b.toNat:Nat):Int)
 else if op=6 then(a*2 ^ y.toNat) % 18446744073709551616
 else if op=7 then a / 2 ^ y.toNat
 else if op=8 then(0-a) % 18446744073709551616
 else if op=9 then(if b=0 then a else a % b)
 else if op=10 then((a.toNat ^^^ b.toNat:Nat):Int)
 else if op=11 then b
 else(wrap64 (ahf a w) / 2 ^ y.toNat) % 18446744073709551616
def zdo (op w a b:Int):Int:=zcut (zop op w (zcut a w) (zcut b w) (zcut b w % w)) w
theorem aok (a b y a1:Int) (w:World) (h0:0<=a) (h1:a<=18446744073709551615) (h2:0<=b) (h3:b<=18446744073709551615) (h4:0<=y) (h5:y<=63):
  Calls Tryz.prog 111 #[.int .u64 a,.int .u64 b,.int .u64 y,.int .i8 a1] w fun e w'=>e=.returned (.int .u64 (zop 0 a1 a b y))/\w=w':=by
 go_enter Tryz.func111,Tryz.ntmps111
 go_wp2
 all_goals go_ret
 all_goals (refine⟨be ?_,rfl⟩)
 all_goals simp[zop,bg]
theorem aoj (a b y a1:Int) (w:World) (h0:0<=a) (h1:a<=18446744073709551615) (h2:0<=b) (h3:b<=18446744073709551615) (h4:0<=y) (h5:y<=63):
  Calls Tryz.prog 112 #[.int .u64 a,.int .u64 b,.int .u64 y,.int .i8 a1] w fun e w'=>e=.returned (.int .u64 (zop 1 a1 a b y))/\w=w':=by
 go_enter Tryz.func112,Tryz.ntmps112
 go_wp2
 all_goals go_ret
 all_goals (refine⟨be ?_,rfl⟩)
 all_goals simp[zop,bg]
theorem aoi (a b y a1:Int) (w:World) (h0:0<=a) (h1:a<=18446744073709551615) (h2:0<=b) (h3:b<=18446744073709551615) (h4:0<=y) (h5:y<=63):
  Calls Tryz.prog 113 #[.int .u64 a,.int .u64 b,.int .u64 y,.int .i8 a1] w fun e w'=>e=.returned (.int .u64 (zop 2 a1 a b y))/\w=w':=by
 go_enter Tryz.func113,Tryz.ntmps113
 go_wp2
 all_goals go_ret
 all_goals (refine⟨be ?_,rfl⟩)
 all_goals simp[zop,bg]
theorem aoh (a b y a1:Int) (w:World) (h0:0<=a) (h1:a<=18446744073709551615) (h2:0<=b) (h3:b<=18446744073709551615) (h4:0<=y) (h5:y<=63):
  Calls Tryz.prog 114 #[.int .u64 a,.int .u64 b,.int .u64 y,.int .i8 a1] w fun e w'=>e=.returned (.int .u64 (zop 3 a1 a b y))/\w=w':=by
 by_cases hz:b=0
 ·subst hz
  go_enter Tryz.func114,Tryz.ntmps114
  go_wp2
  all_goals go_ret
  all_goals (refine⟨be ?_,rfl⟩)
  all_goals simp[zop]
 ·go_enter Tryz.func114,Tryz.ntmps114
  go_wp2
  all_goals go_ret
  all_goals (refine⟨be ?_,rfl⟩)
  all_goals simp[zop,hz]
theorem aog (a b y a1:Int) (w:World) (h0:0<=a) (h1:a<=18446744073709551615) (h2:0<=b) (h3:b<=18446744073709551615) (h4:0<=y) (h5:y<=63):
  Calls Tryz.prog 115 #[.int .u64 a,.int .u64 b,.int .u64 y,.int .i8 a1] w fun e w'=>e=.returned (.int .u64 (zop 4 a1 a b y))/\w=w':=by
 go_enter Tryz.func115,Tryz.ntmps115
 go_wp2
 all_goals go_ret
 all_goals (refine⟨be ?_,rfl⟩)
 all_goals (rw[u64_or _ _ h0 (by omega) h2 (by omega)];simp[zop])
theorem aof (a b y a1:Int) (w:World) (h0:0<=a) (h1:a<=18446744073709551615) (h2:0<=b) (h3:b<=18446744073709551615) (h4:0<=y) (h5:y<=63):
  Calls Tryz.prog 116 #[.int .u64 a,.int .u64 b,.int .u64 y,.int .i8 a1] w fun e w'=>e=.returned (.int .u64 (zop 5 a1 a b y))/\w=w':=by
 go_enter Tryz.func116,Tryz.ntmps116
 go_wp2
 all_goals go_ret
 all_goals (refine⟨be ?_,rfl⟩)
 all_goals (rw[u64_and _ _ h0 (by omega) h2 (by omega)];simp[zop])
theorem aoe (a b y a1:Int) (w:World) (h0:0<=a) (h1:a<=18446744073709551615) (h2:0<=b) (h3:b<=18446744073709551615) (h4:0<=y) (h5:y<=63):
  Calls Tryz.prog 117 #[.int .u64 a,.int .u64 b,.int .u64 y,.int .i8 a1] w fun e w'=>e=.returned (.int .u64 (zop 6 a1 a b y))/\w=w':=by
 go_enter Tryz.func117,Tryz.ntmps117
 go_wp2
 all_goals go_ret
 all_goals (refine⟨be ?_,rfl⟩)
 all_goals simp[zop,bg]
theorem aod (a b y a1:Int) (w:World) (h0:0<=a) (h1:a<=18446744073709551615) (h2:0<=b) (h3:b<=18446744073709551615) (h4:0<=y) (h5:y<=63):
  Calls Tryz.prog 118 #[.int .u64 a,.int .u64 b,.int .u64 y,.int .i8 a1] w fun e w'=>e=.returned (.int .u64 (zop 7 a1 a b y))/\w=w':=by
 go_enter Tryz.func118,Tryz.ntmps118
 go_wp2
 all_goals go_ret
 all_goals (refine⟨be ?_,rfl⟩)
 all_goals simp[zop]
theorem aoc (a b y a1:Int) (w:World) (h0:0<=a) (h1:a<=18446744073709551615) (h2:0<=b) (h3:b<=18446744073709551615) (h4:0<=y) (h5:y<=63):
  Calls Tryz.prog 119 #[.int .u64 a,.int .u64 b,.int .u64 y,.int .i8 a1] w fun e w'=>e=.returned (.int .u64 (zop 8 a1 a b y))/\w=w':=by
 go_enter Tryz.func119,Tryz.ntmps119
 go_wp2
 all_goals go_ret
 all_goals (refine⟨be ?_,rfl⟩)
 all_goals simp[zop,bg]
theorem aob (a b y a1:Int) (w:World) (h0:0<=a) (h1:a<=18446744073709551615) (h2:0<=b) (h3:b<=18446744073709551615) (h4:0<=y) (h5:y<=63):
  Calls Tryz.prog 120 #[.int .u64 a,.int .u64 b,.int .u64 y,.int .i8 a1] w fun e w'=>e=.returned (.int .u64 (zop 9 a1 a b y))/\w=w':=by
 by_cases hz:b=0
 ·subst hz
  go_enter Tryz.func120,Tryz.ntmps120
  go_wp2
  all_goals go_ret
  all_goals (refine⟨be ?_,rfl⟩)
  all_goals simp[zop]
 ·go_enter Tryz.func120,Tryz.ntmps120
  go_wp2
  all_goals go_ret
  all_goals (refine⟨be ?_,rfl⟩)
  all_goals simp[zop,hz]
theorem ajr (a b y a1:Int) (w:World) (h0:0<=a) (h1:a<=18446744073709551615) (h2:0<=b) (h3:b<=18446744073709551615) (h4:0<=y) (h5:y<=63):
  Calls Tryz.prog 121 #[.int .u64 a,.int .u64 b,.int .u64 y,.int .i8 a1] w fun e w'=>e=.returned (.int .u64 (zop 10 a1 a b y))/\w=w':=by
 go_enter Tryz.func121,Tryz.ntmps121
 go_wp2
 all_goals go_ret
 all_goals (refine⟨be ?_,rfl⟩)
 all_goals (rw[u64_xor _ _ h0 (by omega) h2 (by omega)];simp[zop])
theorem ajq (a b y a1:Int) (w:World) (h0:0<=a) (h1:a<=18446744073709551615) (h2:0<=b) (h3:b<=18446744073709551615) (h4:0<=y) (h5:y<=63):
  Calls Tryz.prog 122 #[.int .u64 a,.int .u64 b,.int .u64 y,.int .i8 a1] w fun e w'=>e=.returned (.int .u64 (zop 11 a1 a b y))/\w=w':=by
 go_enter Tryz.func122,Tryz.ntmps122
 go_wp2
 all_goals go_ret
 all_goals (refine⟨be ?_,rfl⟩)
 all_goals simp[zop]
theorem ajp (a b y a1:Int) (w:World) (h0:0<=a) (h1:a<=18446744073709551615) (h2:0<=b) (h3:b<=18446744073709551615) (h4:0<=y) (h5:y<=63):
  Calls Tryz.prog 123 #[.int .u64 a,.int .u64 b,.int .u64 y,.int .i8 a1] w fun e w'=>e=.returned (.int .u64 (zop 12 a1 a b y))/\w=w':=by
 go_enter Tryz.func123,Tryz.ntmps123
 go_wp2_with (go_at_call 124;refine(ahS _ _ _ (by omega) (by omega)).mono ?_;rintro e w' ⟨rfl,rfl⟩)
 all_goals go_ret
 all_goals (refine⟨be ?_,rfl⟩)
 all_goals simp[zop,bg]
attribute [local go_sem] ix0 ix1 ix2 ix3 ix4 ix5 ix6 ix7 ix8 ix9 ix10 ix11 ix12
theorem ajo {op:Int} (h4:0<=op) (h5:op<=12):op=0\/op=1\/op=2\/op=3\/op=4\/op=5\/op=6\/op=7\/op=8\/op=9\/op=10\/op=11\/op=12:=by omega
theorem aqm (k:Nat):(0:Int)<2 ^ k:=Int.pow_pos (by omega)
theorem aj1 (op w a b y:Int) (h0:0<=a) (h1:a<=18446744073709551615) (h2:0<=b) (h3:b<=18446744073709551615):0<=zop op w a b y/\zop op w a b y<=18446744073709551615:=by
 have e1:=Int.ediv_nonneg h0 h2
 have e2:=Int.ediv_le_self b h0
 have e3:=Nat.or_lt_two_pow (n:=64) (x:=a.toNat) (y:=b.toNat) (by omega) (by omega)
 have e4:=Nat.and_le_left (n:=a.toNat) (m:=b.toNat)
 have e5:=Nat.xor_lt_two_pow (n:=64) (x:=a.toNat) (y:=b.toNat) (by omega) (by omega)
 have e6:=Int.ediv_nonneg h0 (Int.le_of_lt (aqm y.toNat))
 have e7:=Int.ediv_le_self (2 ^ y.toNat) h0
 have e8:b≠0->0<=a % b/\a % b<b:=fun h=>⟨Int.emod_nonneg a h,Int.emod_lt_of_pos a (by omega)⟩
 unfold zop
 repeat' split
 all_goals omega
theorem ymod (w b:Int) (h2:0<=b) (h3:b<=18446744073709551615) (hw:mz w=true):bits .and .u64 b (w-1)=b % w/\32<=w/\w<=64/\0<=b % w/\b % w<=63:=by
 simp[mz] at hw
 rcases hw with rfl | rfl
 ·exact⟨asA b h2 h3,by omega,by omega,by omega,by omega⟩
 ·exact⟨arh b h2 h3,by omega,by omega,by omega,by omega⟩
theorem aq6 (op w1 a b:Int) (w:World) (h0:0<=a) (h1:a<=18446744073709551615) (h2:0<=b) (h3:b<=18446744073709551615) (h4:0<=op) (h5:op<=12) (hw:mz w1=true):
  Calls Tryz.prog 25 #[.int .i8 op,.int .i8 w1,.int .u64 a,.int .u64 b] w fun e w'=>e=.returned (.tuple #[.int .u64 (zdo op w1 a b),.int .i64 0])/\Below w.heap.size w w':=by
 obtain⟨ha1,ha2⟩:=kz a w1 h0 h1
 obtain⟨hb1,hb2⟩:=kz b w1 h2 h3
 obtain⟨hy,hw1,hw2,hy1,hy2⟩:=ymod w1 (zcut b w1) hb1 hb2 hw
 obtain⟨hz1,hz2⟩:=aj1 op w1 (zcut a w1) (zcut b w1) (zcut b w1 % w1) ha1 ha2 hb1 hb2
 rcases ajo h4 h5 with rfl | rfl | rfl | rfl | rfl | rfl | rfl | rfl | rfl | rfl | rfl | rfl | rfl
 all_goals
  go_enter Tryz.func25,Tryz.ntmps25
  go_wp2_with (first
   | (go_at_call 63;refine(aam _ _).mono ?_;rintro e w' ⟨rfl,rfl⟩)
   | (go_at_call 64;refine(agM _ _ _ (by omega) (by omega)).mono ?_;rintro e w' ⟨rfl,rfl⟩)
   | (go_at_call 65;refine(an7 _).mono ?_;rintro e w1 ⟨rfl,hb1⟩)
   | (go_at_call 111;refine(aok _ _ _ _ _ (by omega) (by omega) (by omega) (by omega) (by omega) (by omega)).mono ?_;rintro e w' ⟨rfl,rfl⟩)
   | (go_at_call 112;refine(aoj _ _ _ _ _ (by omega) (by omega) (by omega) (by omega) (by omega) (by omega)).mono ?_;rintro e w' ⟨rfl,rfl⟩)
   | (go_at_call 113;refine(aoi _ _ _ _ _ (by omega) (by omega) (by omega) (by omega) (by omega) (by omega)).mono ?_;rintro e w' ⟨rfl,rfl⟩)
   | (go_at_call 114;refine(aoh _ _ _ _ _ (by omega) (by omega) (by omega) (by omega) (by omega) (by omega)).mono ?_;rintro e w' ⟨rfl,rfl⟩)
   | (go_at_call 115;refine(aog _ _ _ _ _ (by omega) (by omega) (by omega) (by omega) (by omega) (by omega)).mono ?_;rintro e w' ⟨rfl,rfl⟩)
   | (go_at_call 116;refine(aof _ _ _ _ _ (by omega) (by omega) (by omega) (by omega) (by omega) (by omega)).mono ?_;rintro e w' ⟨rfl,rfl⟩)
   | (go_at_call 117;refine(aoe _ _ _ _ _ (by omega) (by omega) (by omega) (by omega) (by omega) (by omega)).mono ?_;rintro e w' ⟨rfl,rfl⟩)
   | (go_at_call 118;refine(aod _ _ _ _ _ (by omega) (by omega) (by omega) (by omega) (by omega) (by omega)).mono ?_;rintro e w' ⟨rfl,rfl⟩)
   | (go_at_call 119;refine(aoc _ _ _ _ _ (by omega) (by omega) (by omega) (by omega) (by omega) (by omega)).mono ?_;rintro e w' ⟨rfl,rfl⟩)
   | (go_at_call 120;refine(aob _ _ _ _ _ (by omega) (by omega) (by omega) (by omega) (by omega) (by omega)).mono ?_;rintro e w' ⟨rfl,rfl⟩)
   | (go_at_call 121;refine(ajr _ _ _ _ _ (by omega) (by omega) (by omega) (by omega) (by omega) (by omega)).mono ?_;rintro e w' ⟨rfl,rfl⟩)
   | (go_at_call 122;refine(ajq _ _ _ _ _ (by omega) (by omega) (by omega) (by omega) (by omega) (by omega)).mono ?_;rintro e w' ⟨rfl,rfl⟩)
   | (go_at_call 123;refine(ajp _ _ _ _ _ (by omega) (by omega) (by omega) (by omega) (by omega) (by omega)).mono ?_;rintro e w' ⟨rfl,rfl⟩))
  go_ret2
  exact⟨rfl,‹_›⟩
theorem aq5 (op w1 a b:Int) (w:World) (hbad:(decide (op<0)||decide (12<op) ||!mz w1)=true):
  Calls Tryz.prog 25 #[.int .i8 op,.int .i8 w1,.int .u64 a,.int .u64 b] w fun e w'=>e=.returned (.tuple #[.int .u64 0,.int .i64 2])/\w=w':=by
 have hc:op<0\/(0<=op/\12<op)\/(0<=op/\op<=12/\mz w1=false):=by
  by_cases h1:op<0
  ·exact .inl h1
  ·by_cases h2:12<op
   ·exact .inr (.inl ⟨by omega,h2⟩)
   ·exact .inr (.inr ⟨by omega,by omega,by simpa[h1,h2] using hbad⟩)
 clear hbad
 rcases hc with h | ⟨h,h'⟩ | ⟨h,h',hw⟩
 all_goals
  go_enter Tryz.func25,Tryz.ntmps25
  go_wp2_with (go_at_call 63;refine(aam _ _).mono ?_;rintro e w' ⟨rfl,rfl⟩)
  go_ret2
  exact⟨rfl,rfl⟩
theorem ao1 (op w a b:Int) (h0:0<=a) (h1:a<=18446744073709551615) (h2:0<=b) (h3:b<=18446744073709551615):0<=zdo op w a b/\zdo op w a b<=18446744073709551615:=by
 obtain⟨ha1,ha2⟩:=kz a w h0 h1
 obtain⟨hb1,hb2⟩:=kz b w h2 h3
 obtain⟨hz1,hz2⟩:=aj1 op w (zcut a w) (zcut b w) (zcut b w % w) ha1 ha2 hb1 hb2
 exact kz _ _ hz1 hz2
structure Rg where
 ul:Int
 uh:Int
 sl:Int
 sh:Int
 deriving DecidableEq
def Rg.wf (r:Rg):Prop:=(0<=r.ul/\r.ul<=18446744073709551615)/\(0<=r.uh/\r.uh<=18446744073709551615)/\(-9223372036854775808<=r.sl/\r.sl<=9223372036854775807)/\(-9223372036854775808<=r.sh/\r.sh<=9223372036854775807)
abbrev s64 (v:Int):Int:=wrap64 v
theorem cd (v:Int):s64 v=IntKind.i64.wrap v:=(Go.IntWalk.i64_left v).symm
abbrev u64 (v:Int):Int:=IntKind.u64.wrap v
theorem px (v:Int) : -9223372036854775808<=s64 v/\s64 v<=9223372036854775807:=by
 rw[cd,aR]
 omega
theorem aj4 (v:Int):0<=u64 v/\u64 v<=18446744073709551615:=by
 unfold u64
 rw[bg]
 omega
def ball:Rg:=⟨0,18446744073709551615,-9223372036854775808,9223372036854775807⟩
def bone (v:Int):Rg:=⟨v,v,s64 v,s64 v⟩
def bmay (r:Rg):Bool:=decide (r.ul<=r.uh)&&decide (r.sl<=r.sh)
def bhas (r:Rg) (v:Int):Bool:=bmay r&&((decide (r.ul<=v)&&decide (v<=r.uh))&&(decide (r.sl<=s64 v)&&decide (s64 v<=r.sh)))
def hib (v:Int):Bool:=decide (9223372036854775808<=v)
def bsgn (r:Rg):Rg:=if hib r.ul=hib r.uh then⟨r.ul,r.uh,max r.sl (s64 r.ul),min r.sh (s64 r.uh)⟩ else r
def buns (r:Rg):Rg:=if decide (r.sl<0)=decide (r.sh<0) then⟨max r.ul (u64 r.sl),min r.uh (u64 r.sh),r.sl,r.sh⟩ else r
def bnok (r:Rg):Bool:=bmay r&&(bmay (bsgn r)&&(bmay (buns (bsgn r))&&bmay (bsgn (buns (bsgn r)))))
def bnar (r:Rg):Rg:=if bnok r=true then bsgn (buns (bsgn r)) else ball
def dV (r:Rg):Bool:=decide (r.ul=r.uh)&&bhas r r.ul
def aB (r:Rg):Int:=if dV r=true then r.ul else 0
def aaJ (a b:Rg):Rg:=⟨min a.ul b.ul,max a.uh b.uh,min a.sl b.sl,max a.sh b.sh⟩
def vW (a b:Rg):Rg:=⟨max a.ul b.ul,min a.uh b.uh,max a.sl b.sl,min a.sh b.sh⟩
def o8 (a b:Rg):Rg:=if bmay a=true/\bmay b=true then aaJ a b else ball
def iD (a b:Rg):Bool:=bmay a&&(bmay b&&bnok (vW a b))
def lg (a b:Rg):Rg:=if iD a b=true then bnar (vW a b) else ball
def bin (a b:Rg):Bool:=bmay a&&(bmay b&&decide (o8 a b=b))
theorem er (r:Rg):bmay r=true↔r.ul<=r.uh/\r.sl<=r.sh:=by simp[bmay]
theorem di {r:Rg} (h:r.wf):(bsgn r).wf:=by
 unfold bsgn
 split
 ·have h1:=px r.ul
  have h2:=px r.uh
  obtain⟨a1,a2,a3,a4⟩:=h
  refine⟨a1,a2,?_,?_⟩<;>simp only<;>omega
 ·exact h
theorem dh {r:Rg} (h:r.wf):(buns r).wf:=by
 unfold buns
 split
 ·have h1:=aj4 r.sl
  have h2:=aj4 r.sh
  obtain⟨a1,a2,a3,a4⟩:=h
  refine⟨?_,?_,a3,a4⟩<;>simp only<;>omega
 ·exact h
def tbB (x:Int) (i:Nat):Bool:=(BitVec.ofInt 64 x).getLsbD i
theorem agX (x:BitVec 64):BitVec.ofInt 64 (x.toNat:Int)=x:=by simp
theorem aaI (x:Int):BitVec.ofInt 64 (IntKind.i64.wrap x)=BitVec.ofInt 64 x:=by
 apply BitVec.eq_of_toNat_eq
 rw[BitVec.toNat_ofInt,BitVec.toNat_ofInt,aR]
 omega
theorem aoS (x y:Int):BitVec.ofInt 64 (bits .and .i64 x y)=BitVec.ofInt 64 x &&& BitVec.ofInt 64 y:=(aaI _).trans (agX _)
theorem aoR (x y:Int):BitVec.ofInt 64 (bits .xor .i64 x y)=BitVec.ofInt 64 x ^^^ BitVec.ofInt 64 y:=(aaI _).trans (agX _)
theorem ac5 (x y:Int) (i:Nat):tbB (bits .and .i64 x y) i=(tbB x i&&tbB y i):=by unfold tbB;rw[aoS,BitVec.getLsbD_and]
theorem qo (x y:Int) (i:Nat):tbB (bits .xor .i64 x y) i=(tbB x i ^^ tbB y i):=by unfold tbB;rw[aoR,BitVec.getLsbD_xor]
theorem lJ {x:Int} (h0 : -9223372036854775808<=x) (h1:x<=9223372036854775807):decide (x<0)=tbB x 63:=by
 unfold tbB
 rw[BitVec.getLsbD,Nat.testBit_eq_decide_div_mod_eq,decide_eq_decide,BitVec.toNat_ofInt]
 omega
theorem ajD (op:BinOp) (x y:Int):∃z,bits op .i64 x y=IntKind.i64.wrap z:=⟨_,rfl⟩
theorem akO (op:BinOp) (x y:Int) : -9223372036854775808<=bits op .i64 x y/\bits op .i64 x y<=9223372036854775807:=by
 obtain⟨z,h⟩:=ajD op x y
 rw[h,<-cd];exact px z
theorem afQ {a b:Int} (a0 : -9223372036854775808<=a) (a1:a<=9223372036854775807) (b0 : -9223372036854775808<=b) (b1:b<=9223372036854775807):
  decide (0<=bits .and .i64 (bits .xor .i64 a (wrap64 (a+b))) (bits .xor .i64 b (wrap64 (a+b))))=decide (-9223372036854775808<=a+b/\a+b<=9223372036854775807):=by
 have hs:=px (a+b)
 have hw:s64 (a+b)=(a+b+9223372036854775808) % 18446744073709551616-9223372036854775808:=by rw[cd];exact aR _
 have hb:=akO .and (bits .xor .i64 a (s64 (a+b))) (bits .xor .i64 b (s64 (a+b)))
 have e:=lJ hb.1 hb.2
 rw[ac5,qo,qo,<-lJ a0 a1,<-lJ b0 b1,<-lJ hs.1 hs.2] at e
 show decide (0<=bits .and .i64 (bits .xor .i64 a (s64 (a+b))) (bits .xor .i64 b (s64 (a+b))))=_
 generalize bits .and .i64 (bits .xor .i64 a (s64 (a+b))) (bits .xor .i64 b (s64 (a+b)))=t at e hb
 generalize s64 (a+b)=s at *
 rw[decide_eq_decide]
 by_cases h1:a<0<;>by_cases h2:b<0<;>by_cases h3:s<0<;>simp[h1,h2,h3] at e<;>omega
theorem abl {a b:Int} (a0 : -9223372036854775808<=a) (a1:a<=9223372036854775807) (b0 : -9223372036854775808<=b) (b1:b<=9223372036854775807):
  decide (0<=bits .and .i64 (bits .xor .i64 a b) (bits .xor .i64 a (wrap64 (a-b))))=decide (-9223372036854775808<=a-b/\a-b<=9223372036854775807):=by
 have hs:=px (a-b)
 have hw:s64 (a-b)=(a-b+9223372036854775808) % 18446744073709551616-9223372036854775808:=by rw[cd];exact aR _
 have hb:=akO .and (bits .xor .i64 a b) (bits .xor .i64 a (s64 (a-b)))
 have e:=lJ hb.1 hb.2
 rw[ac5,qo,qo,<-lJ a0 a1,<-lJ b0 b1,<-lJ hs.1 hs.2] at e
 show decide (0<=bits .and .i64 (bits .xor .i64 a b) (bits .xor .i64 a (s64 (a-b))))=_
 generalize bits .and .i64 (bits .xor .i64 a b) (bits .xor .i64 a (s64 (a-b)))=t at e hb
 generalize s64 (a-b)=s at *
 rw[decide_eq_decide]
 by_cases h1:a<0<;>by_cases h2:b<0<;>by_cases h3:s<0<;>simp[h1,h2,h3] at e<;>omega
def aC (n:Nat):Nat:=if n=0 then 0 else Nat.log2 n+1
def lh (v:Int):Int:=2 ^ aC v.toNat-1
theorem yp (n:Nat):n<2 ^ aC n:=by
 unfold aC
 split
 ·subst_vars;simp
 ·exact Nat.lt_log2_self
theorem ag0 {n:Nat} (h:n≠0):2 ^ (aC n-1)<=n:=by
 unfold aC
 rw[if_neg h]
 exact Nat.log2_self_le h
theorem eJ {n k:Nat} (h:n<2 ^ k):aC n<=k:=by
 rcases Nat.eq_zero_or_pos n with h0 | h0
 ·simp[aC,h0]
 ·have h1:=ag0 (n:=n) (by omega)
  rcases aV k (aC n) with hk | hk
  ·have:2 ^ k<=2 ^ (aC n-1):=Nat.pow_le_pow_right (by omega) (by omega)
   omega
  ·exact hk
theorem ajV {v:Int} (h:v<=18446744073709551615):0<=lh v/\lh v<=18446744073709551615:=by
 have h1:v.toNat<2 ^ 64:=by omega
 have h2:=eJ h1
 have h3:2 ^ aC v.toNat<=2 ^ 64:=Nat.pow_le_pow_right (by omega) h2
 have h4:0<2 ^ aC v.toNat:=Nat.pow_pos (by omega)
 unfold lh
 have:((2:Int) ^ aC v.toNat)=((2 ^ aC v.toNat:Nat):Int):=by simp
 rw[this]
 omega
def bsum (a b:Rg):Rg:=
 ⟨if a.uh+b.uh<=18446744073709551615 then a.ul+b.ul else 0,if a.uh+b.uh<=18446744073709551615 then a.uh+b.uh else 18446744073709551615,
  if(-9223372036854775808<=a.sl+b.sl/\a.sl+b.sl<=9223372036854775807)/\(-9223372036854775808<=a.sh+b.sh/\a.sh+b.sh<=9223372036854775807) then a.sl+b.sl else -9223372036854775808,
  if(-9223372036854775808<=a.sl+b.sl/\a.sl+b.sl<=9223372036854775807)/\(-9223372036854775808<=a.sh+b.sh/\a.sh+b.sh<=9223372036854775807) then a.sh+b.sh else 9223372036854775807⟩
def bdif (a b:Rg):Rg:=
 ⟨if b.uh<=a.ul then a.ul-b.uh else 0,if b.uh<=a.ul then a.uh-b.ul else 18446744073709551615,
  if(-9223372036854775808<=a.sl-b.sh/\a.sl-b.sh<=9223372036854775807)/\(-9223372036854775808<=a.sh-b.sl/\a.sh-b.sl<=9223372036854775807) then a.sl-b.sh else -9223372036854775808,
  if(-9223372036854775808<=a.sl-b.sh/\a.sl-b.sh<=9223372036854775807)/\(-9223372036854775808<=a.sh-b.sl/\a.sh-b.sl<=9223372036854775807) then a.sh-b.sl else 9223372036854775807⟩
def bu (l h:Int):Rg:=⟨l,h,-9223372036854775808,9223372036854775807⟩
def bby (b:Rg):Nat:=(b.ul % 64).toNat
def bdo0 (op:Int) (a b:Rg):Rg:=
 if op=11 then b else if op=0 then bsum a b else if op=1 then bdif a b
 else if op=5 then bu 0 (min a.uh b.uh)
 else if op=4 then bu (max a.ul b.ul) (lh (max a.uh b.uh))
 else if op=10 then bu 0 (lh (max a.uh b.uh))
 else if op=3 then(if 0<b.ul then bu (a.ul / b.uh) (a.uh / b.ul) else bu 0 a.uh)
 else if op=9 then(if 0<b.ul then bu 0 (min a.uh (b.uh-1)) else bu 0 a.uh)
 else if op=7 then(if dV b=true then bu (a.ul / 2 ^ bby b) (a.uh / 2 ^ bby b) else ball)
 else if op=6 then(if dV b=true/\aC a.uh.toNat+bby b<=64 then bu (a.ul*2 ^ bby b) (a.uh*2 ^ bby b) else ball)
 else ball
def bdo (op:Int) (a b:Rg):Rg:=if bmay a=true/\bmay b=true then bnar (bdo0 op a b) else ball
theorem apj {x y:Int} (h0:0<=x) (hy:x<=y) {k:Nat} (h:aC y.toNat+k<=64):0<=x*2 ^ k/\x*2 ^ k<=y*2 ^ k/\y*2 ^ k<=18446744073709551615:=by
 have hp:(0:Int)<2 ^ k:=Int.pow_pos (by omega)
 refine⟨Int.mul_nonneg h0 (by omega),Int.mul_le_mul_of_nonneg_right hy (by omega),?_⟩
 have h1:=yp y.toNat
 have h2:(y.toNat+1)*2 ^ k<=2 ^ aC y.toNat*2 ^ k:=Nat.mul_le_mul_right _ (by omega)
 rw[<-Nat.pow_add] at h2
 have h3:2 ^ (aC y.toNat+k)<=2 ^ 64:=Nat.pow_le_pow_right (by omega) h
 have h4:0<2 ^ k:=Nat.pow_pos (by omega)
 have e:y*2 ^ k=((y.toNat*2 ^ k:Nat):Int):=by
  have:((y.toNat:Nat):Int)=y:=by omega
  rw[Int.natCast_mul,this];simp
 rw[e]
 rw[Nat.add_mul] at h2
 omega
theorem aq7 {x y z:Int} (h0:0<=x) (h1:x<=18446744073709551615) (hy:0<y):0<=x / y/\x / y<=18446744073709551615:=by
 have:=Int.ediv_le_self y h0
 exact⟨Int.ediv_nonneg h0 (by omega),by omega⟩
def Rg.Sub (a b:Rg):Prop:=b.ul<=a.ul/\a.uh<=b.uh/\b.sl<=a.sl/\a.sh<=b.sh
theorem Rg.Sub.refl (a:Rg):a.Sub a:=⟨Int.le_refl _,Int.le_refl _,Int.le_refl _,Int.le_refl _⟩
theorem Rg.Sub.trans {a b c:Rg} (h:a.Sub b) (g:b.Sub c):a.Sub c:=by
 obtain⟨h1,h2,h3,h4⟩:=h
 obtain⟨g1,g2,g3,g4⟩:=g
 exact⟨by omega,by omega,by omega,by omega⟩
def blow (r:Rg):Rg:=if bmay r=true/\r.uh<=4294967295 then r else bnar (bu 0 4294967295)
def bcan (cc:Int) (a b:Rg):Bool:=
 if cc=1 then(if dV b=true then !decide (a.ul=b.ul/\a.uh=b.ul) &&!decide (a.sl=s64 b.ul/\a.sh=s64 b.ul) else true)
 else if cc=2 then !decide (b.ul=18446744073709551615) else if cc=4 then !decide (b.uh=0) else if cc=6 then !decide (b.sl=9223372036854775807) else if cc=8 then !decide (b.sh = -9223372036854775808) else true
def brng (cc:Int) (a b:Rg):Rg:=
 if cc=1 then(if dV b=true then⟨if a.ul=b.ul then a.ul+1 else a.ul,if a.ul≠b.ul/\a.uh=b.ul then a.uh-1 else a.uh,if a.sl=s64 b.ul then a.sl+1 else a.sl,if a.sl≠s64 b.ul/\a.sh=s64 b.ul then a.sh-1 else a.sh⟩ else a)
 else if cc=2 then⟨max a.ul (b.ul+1),a.uh,a.sl,a.sh⟩ else if cc=3 then⟨max a.ul b.ul,a.uh,a.sl,a.sh⟩
 else if cc=4 then⟨a.ul,min a.uh (b.uh-1),a.sl,a.sh⟩ else if cc=5 then⟨a.ul,min a.uh b.uh,a.sl,a.sh⟩
 else if cc=6 then⟨a.ul,a.uh,max a.sl (b.sl+1),a.sh⟩ else if cc=7 then⟨a.ul,a.uh,max a.sl b.sl,a.sh⟩
 else if cc=8 then⟨a.ul,a.uh,a.sl,min a.sh (b.sh-1)⟩ else if cc=9 then⟨a.ul,a.uh,a.sl,min a.sh b.sh⟩ else a
def ky (cc:Int) (a b:Rg):Bool:=bmay a&&(bmay b&&(decide (0<=cc)&&decide (cc<=10)))
def bgok (cc:Int) (a b:Rg):Bool:=ky cc a b&&(if cc=0 then iD a b else bcan cc a b&&bnok (brng cc a b))
def bgiv (cc:Int) (a b:Rg):Rg:=if bgok cc a b=true then(if cc=0 then lg a b else bnar (brng cc a b)) else ball
end Go.Proofs.YtfkhblmeioiciaaGreatDoor
