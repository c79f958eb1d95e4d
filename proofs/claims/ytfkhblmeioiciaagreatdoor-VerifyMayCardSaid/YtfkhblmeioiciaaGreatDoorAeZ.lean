import Derived.Test.YtfkhblmeioiciaaGreatDoorRows
import Derived.Test.YtfkhblmeioiciaaGreatDoorLib
import Derived.WalkKit
import Derived.WalkSpells
import Derived.WalkLawsBesides
import Derived.Laws.EntriesVeiled
import Derived.Test.YtfkhblmeioiciaaGreatDoorAdZ
import Derived.Test.YtfkhblmeioiciaaGreatDoorProg
import Derived.Laws.Externs
import Derived.Test.YtfkhblmeioiciaaGreatDoorFrame
import Derived.Laws.OwnMore
import Derived.Deep.RegionHeld3
import Derived.Deep.RegionWith
import Derived.Deep.DeepCutAuto
import Derived.Deep.CutBlock
import Derived.Lib.BitFns
import Derived.ChangeSlices
import Derived.ChangeSame
import Derived.ChangeArms
import Derived.Deep.Slices
set_option maxRecDepth 100000
set_option maxHeartbeats 8000000
set_option linter.defProp false
set_option linter.unusedVariables false
set_option linter.unusedSimpArgs false
namespace Go.Proofs.YtfkhblmeioiciaaGreatDoor
open Go.RowKit
def nN (a:Int):Bool:=a==32||a==64
def zcut (v a:Int):Int:=if a=8 then v % 256 else if a=16 then v % 65536 else if a=32 then v % 4294967296 else v
def zsgn (v b:Int):Int:=if v % (2*b)<b then v % (2*b) else 18446744073709551616-2*b+v % (2*b)
def aj0 (v a:Int):Int:=if a=8 then zsgn v 128 else if a=16 then zsgn v 32768 else if a=32 then zsgn v 2147483648 else v
theorem ack (a:Int) (w:World):
  Calls Tryz.prog 63 #[.int .i8 a] w fun e w'=>e=.returned (.bool (nN a))/\w=w':=by
 go_enter Tryz.func63,Tryz.ntmps63
 go_wp2
 all_goals go_ret
 all_goals (refine⟨amp ?_,rfl⟩;simp_all [nN])
theorem aju (v a:Int) (w:World) (h0:0<=v) (h1:v<=18446744073709551615):
  Calls Tryz.prog 64 #[.int .u64 v,.int .i8 a] w fun e w'=>e=.returned (.int .u64 (zcut v a))/\w=w':=by
 go_enter Tryz.func64,Tryz.ntmps64
 go_wp2
 all_goals go_ret
 all_goals (refine⟨bh ?_,rfl⟩)
 all_goals (simp only[db,beq_eq_false_iff_ne] at *;simp only[zcut,asN,bf, *];first | rfl | (simp;done) | (simp;omega))
theorem akL (v a:Int) (w:World) (h0:0<=v) (h1:v<=18446744073709551615):
  Calls Tryz.prog 124 #[.int .u64 v,.int .i8 a] w fun e w'=>e=.returned (.int .u64 (aj0 v a))/\w=w':=by
 go_enter Tryz.func124,Tryz.ntmps124
 go_wp2
 all_goals go_ret
 all_goals (refine⟨bh ?_,rfl⟩)
 all_goals (simp only[db,beq_eq_false_iff_ne] at *;simp only[aj0,zsgn,asN,bf,w_i8,avw,w_32,w_64, *];first | rfl | (simp;done) | (simp;split<;>omega))
theorem gS (v a:Int) (h0:0<=v) (h1:v<=18446744073709551615):0<=zcut v a/\zcut v a<=18446744073709551615:=by
 unfold zcut;split<;>(try split)<;>(try split)<;>omega
def fe:Array Value:= #[.func (.func 111) #[] #[],.func (.func 112) #[] #[],.func (.func 113) #[] #[],.func (.func 114) #[] #[],.func (.func 115) #[] #[],.func (.func 116) #[] #[],.func (.func 117) #[] #[],.func (.func 118) #[] #[],.func (.func 119) #[] #[],.func (.func 120) #[] #[],.func (.func 121) #[] #[],.func (.func 122) #[] #[],.func (.func 123) #[] #[]]
theorem arM (w:World):
  Calls Tryz.prog 65 #[] w fun e w'=>e=.returned (.agg fe)/\Below w.heap.size w w':=by
 go_enter Tryz.func65,Tryz.ntmps65
 go_wp2
 exact bodyPost_ret (by simp[results,Tryz.results65,go_sem];rfl) rfl ⟨rfl,(Below.refl _ _).alloc (Nat.le_refl _) _⟩
theorem ix0 (W:World):(Instr.index 128 (.agg fe) (.int .i8 0)).run Tryz.prog W=.ok (.func (.func 111) #[] #[]) W:=by kernel_rfl
theorem ix1 (W:World):(Instr.index 128 (.agg fe) (.int .i8 1)).run Tryz.prog W=.ok (.func (.func 112) #[] #[]) W:=by kernel_rfl
theorem ix2 (W:World):(Instr.index 128 (.agg fe) (.int .i8 2)).run Tryz.prog W=.ok (.func (.func 113) #[] #[]) W:=by kernel_rfl
theorem ix3 (W:World):(Instr.index 128 (.agg fe) (.int .i8 3)).run Tryz.prog W=.ok (.func (.func 114) #[] #[]) W:=by kernel_rfl
theorem ix4 (W:World):(Instr.index 128 (.agg fe) (.int .i8 4)).run Tryz.prog W=.ok (.func (.func 115) #[] #[]) W:=by kernel_rfl
theorem ix5 (W:World):(Instr.index 128 (.agg fe) (.int .i8 5)).run Tryz.prog W=.ok (.func (.func 116) #[] #[]) W:=by kernel_rfl
theorem ix6 (W:World):(Instr.index 128 (.agg fe) (.int .i8 6)).run Tryz.prog W=.ok (.func (.func 117) #[] #[]) W:=by kernel_rfl
theorem ix7 (W:World):(Instr.index 128 (.agg fe) (.int .i8 7)).run Tryz.prog W=.ok (.func (.func 118) #[] #[]) W:=by kernel_rfl
theorem ix8 (W:World):(Instr.index 128 (.agg fe) (.int .i8 8)).run Tryz.prog W=.ok (.func (.func 119) #[] #[]) W:=by kernel_rfl
theorem ix9 (W:World):(Instr.index 128 (.agg fe) (.int .i8 9)).run Tryz.prog W=.ok (.func (.func 120) #[] #[]) W:=by kernel_rfl
theorem ix10 (W:World):(Instr.index 128 (.agg fe) (.int .i8 10)).run Tryz.prog W=.ok (.func (.func 121) #[] #[]) W:=by kernel_rfl
theorem ix11 (W:World):(Instr.index 128 (.agg fe) (.int .i8 11)).run Tryz.prog W=.ok (.func (.func 122) #[] #[]) W:=by kernel_rfl
theorem ix12 (W:World):(Instr.index 128 (.agg fe) (.int .i8 12)).run Tryz.prog W=.ok (.func (.func 123) #[] #[]) W:=by kernel_rfl
def zop (op w a b y:Int):Int:=
 if op=0 then(a+b) % 18446744073709551616
 else if op=1 then(a-b) % 18446744073709551616
 else if op=2 then(a*b) % 18446744073709551616
 else if op=3 then(if b=0 then 0 else a / b)
 else if op=4 then((a.toNat ||| b.toNat:Nat):Int)
 else if op=5 then((a.toNat &&& b.toNat:Nat):Int)
 else if op=6 then(a*2 ^ y.toNat) % 18446744073709551616
 else if op=7 then a / 2 ^ y.toNat
 else if op=8 then(0-a) % 18446744073709551616
 else if op=9 then(if b=0 then a else a % b)
 else if op=10 then((a.toNat ^^^ b.toNat:Nat):Int)
 else if op=11 then b
 else(wrap64 (aj0 a w) / 2 ^ y.toNat) % 18446744073709551616
def zdo (op w a b:Int):Int:=zcut (zop op w (zcut a w) (zcut b w) (zcut b w % w)) w
theorem arZ (a b y a1:Int) (w:World) (h0:0<=a) (h1:a<=18446744073709551615) (h2:0<=b) (h3:b<=18446744073709551615) (h4:0<=y) (h5:y<=63):
  Calls Tryz.prog 111 #[.int .u64 a,.int .u64 b,.int .u64 y,.int .i8 a1] w fun e w'=>e=.returned (.int .u64 (zop 0 a1 a b y))/\w=w':=by
 go_enter Tryz.func111,Tryz.ntmps111
 go_wp2
 all_goals go_ret
 all_goals (refine⟨bh ?_,rfl⟩)
 all_goals simp[zop,bf]
theorem arY (a b y a1:Int) (w:World) (h0:0<=a) (h1:a<=18446744073709551615) (h2:0<=b) (h3:b<=18446744073709551615) (h4:0<=y) (h5:y<=63):
  Calls Tryz.prog 112 #[.int .u64 a,.int .u64 b,.int .u64 y,.int .i8 a1] w fun e w'=>e=.returned (.int .u64 (zop 1 a1 a b y))/\w=w':=by
 go_enter Tryz.func112,Tryz.ntmps112
 go_wp2
 all_goals go_ret
 all_goals (refine⟨bh ?_,rfl⟩)
 all_goals simp[zop,bf]
theorem arX (a b y a1:Int) (w:World) (h0:0<=a) (h1:a<=18446744073709551615) (h2:0<=b) (h3:b<=18446744073709551615) (h4:0<=y) (h5:y<=63):
  Calls Tryz.prog 113 #[.int .u64 a,.int .u64 b,.int .u64 y,.int .i8 a1] w fun e w'=>e=.returned (.int .u64 (zop 2 a1 a b y))/\w=w':=by
 go_enter Tryz.func113,Tryz.ntmps113
 go_wp2
 all_goals go_ret
 all_goals (refine⟨bh ?_,rfl⟩)
 all_goals simp[zop,bf]
theorem arW (a b y a1:Int) (w:World) (h0:0<=a) (h1:a<=18446744073709551615) (h2:0<=b) (h3:b<=18446744073709551615) (h4:0<=y) (h5:y<=63):
  Calls Tryz.prog 114 #[.int .u64 a,.int .u64 b,.int .u64 y,.int .i8 a1] w fun e w'=>e=.returned (.int .u64 (zop 3 a1 a b y))/\w=w':=by
 by_cases hz:b=0
 ·subst hz
  go_enter Tryz.func114,Tryz.ntmps114
  go_wp2
  all_goals go_ret
  all_goals (refine⟨bh ?_,rfl⟩)
  all_goals simp[zop]
 ·go_enter Tryz.func114,Tryz.ntmps114
  go_wp2
  all_goals go_ret
  all_goals (refine⟨bh ?_,rfl⟩)
  all_goals simp[zop,hz]
theorem arV (a b y a1:Int) (w:World) (h0:0<=a) (h1:a<=18446744073709551615) (h2:0<=b) (h3:b<=18446744073709551615) (h4:0<=y) (h5:y<=63):
  Calls Tryz.prog 115 #[.int .u64 a,.int .u64 b,.int .u64 y,.int .i8 a1] w fun e w'=>e=.returned (.int .u64 (zop 4 a1 a b y))/\w=w':=by
 go_enter Tryz.func115,Tryz.ntmps115
 go_wp2
 all_goals go_ret
 all_goals (refine⟨bh ?_,rfl⟩)
 all_goals (rw[u64_or _ _ h0 (by omega) h2 (by omega)];simp[zop])
theorem arU (a b y a1:Int) (w:World) (h0:0<=a) (h1:a<=18446744073709551615) (h2:0<=b) (h3:b<=18446744073709551615) (h4:0<=y) (h5:y<=63):
  Calls Tryz.prog 116 #[.int .u64 a,.int .u64 b,.int .u64 y,.int .i8 a1] w fun e w'=>e=.returned (.int .u64 (zop 5 a1 a b y))/\w=w':=by
 go_enter Tryz.func116,Tryz.ntmps116
 go_wp2
 all_goals go_ret
 all_goals (refine⟨bh ?_,rfl⟩)
 all_goals (rw[u64_and _ _ h0 (by omega) h2 (by omega)];simp[zop])
theorem arT (a b y a1:Int) (w:World) (h0:0<=a) (h1:a<=18446744073709551615) (h2:0<=b) (h3:b<=18446744073709551615) (h4:0<=y) (h5:y<=63):
  Calls Tryz.prog 117 #[.int .u64 a,.int .u64 b,.int .u64 y,.int .i8 a1] w fun e w'=>e=.returned (.int .u64 (zop 6 a1 a b y))/\w=w':=by
 go_enter Tryz.func117,Tryz.ntmps117
 go_wp2
 all_goals go_ret
 all_goals (refine⟨bh ?_,rfl⟩)
 all_goals simp[zop,bf]
theorem arS (a b y a1:Int) (w:World) (h0:0<=a) (h1:a<=18446744073709551615) (h2:0<=b) (h3:b<=18446744073709551615) (h4:0<=y) (h5:y<=63):
  Calls Tryz.prog 118 #[.int .u64 a,.int .u64 b,.int .u64 y,.int .i8 a1] w fun e w'=>e=.returned (.int .u64 (zop 7 a1 a b y))/\w=w':=by
 go_enter Tryz.func118,Tryz.ntmps118
 go_wp2
 all_goals go_ret
 all_goals (refine⟨bh ?_,rfl⟩)
 all_goals simp[zop]
theorem arR (a b y a1:Int) (w:World) (h0:0<=a) (h1:a<=18446744073709551615) (h2:0<=b) (h3:b<=18446744073709551615) (h4:0<=y) (h5:y<=63):
  Calls Tryz.prog 119 #[.int .u64 a,.int .u64 b,.int .u64 y,.int .i8 a1] w fun e w'=>e=.returned (.int .u64 (zop 8 a1 a b y))/\w=w':=by
 go_enter Tryz.func119,Tryz.ntmps119
 go_wp2
 all_goals go_ret
 all_goals (refine⟨bh ?_,rfl⟩)
 all_goals simp[zop,bf]
theorem arQ (a b y a1:Int) (w:World) (h0:0<=a) (h1:a<=18446744073709551615) (h2:0<=b) (h3:b<=18446744073709551615) (h4:0<=y) (h5:y<=63):
  Calls Tryz.prog 120 #[.int .u64 a,.int .u64 b,.int .u64 y,.int .i8 a1] w fun e w'=>e=.returned (.int .u64 (zop 9 a1 a b y))/\w=w':=by
 by_cases hz:b=0
 ·subst hz
  go_enter Tryz.func120,Tryz.ntmps120
  go_wp2
  all_goals go_ret
  all_goals (refine⟨bh ?_,rfl⟩)
  all_goals simp[zop]
 ·go_enter Tryz.func120,Tryz.ntmps120
  go_wp2
  all_goals go_ret
  all_goals (refine⟨bh ?_,rfl⟩)
  all_goals simp[zop,hz]
theorem amw (a b y a1:Int) (w:World) (h0:0<=a) (h1:a<=18446744073709551615) (h2:0<=b) (h3:b<=18446744073709551615) (h4:0<=y) (h5:y<=63):
  Calls Tryz.prog 121 #[.int .u64 a,.int .u64 b,.int .u64 y,.int .i8 a1] w fun e w'=>e=.returned (.int .u64 (zop 10 a1 a b y))/\w=w':=by
 go_enter Tryz.func121,Tryz.ntmps121
 go_wp2
 all_goals go_ret
 all_goals (refine⟨bh ?_,rfl⟩)
 all_goals (rw[u64_xor _ _ h0 (by omega) h2 (by omega)];simp[zop])
theorem amv (a b y a1:Int) (w:World) (h0:0<=a) (h1:a<=18446744073709551615) (h2:0<=b) (h3:b<=18446744073709551615) (h4:0<=y) (h5:y<=63):
  Calls Tryz.prog 122 #[.int .u64 a,.int .u64 b,.int .u64 y,.int .i8 a1] w fun e w'=>e=.returned (.int .u64 (zop 11 a1 a b y))/\w=w':=by
 go_enter Tryz.func122,Tryz.ntmps122
 go_wp2
 all_goals go_ret
 all_goals (refine⟨bh ?_,rfl⟩)
 all_goals simp[zop]
theorem amu (a b y a1:Int) (w:World) (h0:0<=a) (h1:a<=18446744073709551615) (h2:0<=b) (h3:b<=18446744073709551615) (h4:0<=y) (h5:y<=63):
  Calls Tryz.prog 123 #[.int .u64 a,.int .u64 b,.int .u64 y,.int .i8 a1] w fun e w'=>e=.returned (.int .u64 (zop 12 a1 a b y))/\w=w':=by
 go_enter Tryz.func123,Tryz.ntmps123
 go_wp2_with (go_at_call 124;refine(akL _ _ _ (by omega) (by omega)).mono ?_;rintro e w' ⟨rfl,rfl⟩)
 all_goals go_ret
 all_goals (refine⟨bh ?_,rfl⟩)
 all_goals simp[zop,bf]
attribute [local go_sem] ix0 ix1 ix2 ix3 ix4 ix5 ix6 ix7 ix8 ix9 ix10 ix11 ix12
theorem amt {op:Int} (h4:0<=op) (h5:op<=12):op=0\/op=1\/op=2\/op=3\/op=4\/op=5\/op=6\/op=7\/op=8\/op=9\/op=10\/op=11\/op=12:=by omega
theorem auj (k:Nat):(0:Int)<2 ^ k:=Int.pow_pos (by omega)
theorem ang (op w a b y:Int) (h0:0<=a) (h1:a<=18446744073709551615) (h2:0<=b) (h3:b<=18446744073709551615):0<=zop op w a b y/\zop op w a b y<=18446744073709551615:=by
 have e1:=Int.ediv_nonneg h0 h2
 have e2:=Int.ediv_le_self b h0
 have e3:=Nat.or_lt_two_pow (n:=64) (x:=a.toNat) (y:=b.toNat) (by omega) (by omega)
 have e4:=Nat.and_le_left (n:=a.toNat) (m:=b.toNat)
 have e5:=Nat.xor_lt_two_pow (n:=64) (x:=a.toNat) (y:=b.toNat) (by omega) (by omega)
 have e6:=Int.ediv_nonneg h0 (Int.le_of_lt (auj y.toNat))
 have e7:=Int.ediv_le_self (2 ^ y.toNat) h0
 have e8:b≠0->0<=a % b/\a % b<b:=fun h=>⟨Int.emod_nonneg a h,Int.emod_lt_of_pos a (by omega)⟩
 unfold zop
 repeat' split
 all_goals omega
theorem ymod (w b:Int) (h2:0<=b) (h3:b<=18446744073709551615) (hw:nN w=true):bits .and .u64 b (w-1)=b % w/\32<=w/\w<=64/\0<=b % w/\b % w<=63:=by
 simp[nN] at hw
 rcases hw with rfl | rfl
 ·exact⟨awD b h2 h3,by omega,by omega,by omega,by omega⟩
 ·exact⟨avk b h2 h3,by omega,by omega,by omega,by omega⟩
theorem au5 (op w1 a b:Int) (w:World) (h0:0<=a) (h1:a<=18446744073709551615) (h2:0<=b) (h3:b<=18446744073709551615) (h4:0<=op) (h5:op<=12) (hw:nN w1=true):
  Calls Tryz.prog 25 #[.int .i8 op,.int .i8 w1,.int .u64 a,.int .u64 b] w fun e w'=>e=.returned (.tuple #[.int .u64 (zdo op w1 a b),.int .i64 0])/\Below w.heap.size w w':=by
 obtain⟨ha1,ha2⟩:=gS a w1 h0 h1
 obtain⟨hb1,hb2⟩:=gS b w1 h2 h3
 obtain⟨hy,hw1,hw2,hy1,hy2⟩:=ymod w1 (zcut b w1) hb1 hb2 hw
 obtain⟨hz1,hz2⟩:=ang op w1 (zcut a w1) (zcut b w1) (zcut b w1 % w1) ha1 ha2 hb1 hb2
 rcases amt h4 h5 with rfl | rfl | rfl | rfl | rfl | rfl | rfl | rfl | rfl | rfl | rfl | rfl | rfl
 all_goals
  go_enter Tryz.func25,Tryz.ntmps25
  go_wp2_with (first
   | (go_at_call 63;refine(ack _ _).mono ?_;rintro e w' ⟨rfl,rfl⟩)
   | (go_at_call 64;refine(aju _ _ _ (by omega) (by omega)).mono ?_;rintro e w' ⟨rfl,rfl⟩)
   | (go_at_call 65;refine(arM _).mono ?_;rintro e w1 ⟨rfl,hb1⟩)
   | (go_at_call 111;refine(arZ _ _ _ _ _ (by omega) (by omega) (by omega) (by omega) (by omega) (by omega)).mono ?_;rintro e w' ⟨rfl,rfl⟩)
   | (go_at_call 112;refine(arY _ _ _ _ _ (by omega) (by omega) (by omega) (by omega) (by omega) (by omega)).mono ?_;rintro e w' ⟨rfl,rfl⟩)
   | (go_at_call 113;refine(arX _ _ _ _ _ (by omega) (by omega) (by omega) (by omega) (by omega) (by omega)).mono ?_;rintro e w' ⟨rfl,rfl⟩)
   | (go_at_call 114;refine(arW _ _ _ _ _ (by omega) (by omega) (by omega) (by omega) (by omega) (by omega)).mono ?_;rintro e w' ⟨rfl,rfl⟩)
   | (go_at_call 115;refine(arV _ _ _ _ _ (by omega) (by omega) (by omega) (by omega) (by omega) (by omega)).mono ?_;rintro e w' ⟨rfl,rfl⟩)
   | (go_at_call 116;refine(arU _ _ _ _ _ (by omega) (by omega) (by omega) (by omega) (by omega) (by omega)).mono ?_;rintro e w' ⟨rfl,rfl⟩)
   | (go_at_call 117;refine(arT _ _ _ _ _ (by omega) (by omega) (by omega) (by omega) (by omega) (by omega)).mono ?_;rintro e w' ⟨rfl,rfl⟩)
   | (go_at_call 118;refine(arS _ _ _ _ _ (by omega) (by omega) (by omega) (by omega) (by omega) (by omega)).mono ?_;rintro e w' ⟨rfl,rfl⟩)
   | (go_at_call 119;refine(arR _ _ _ _ _ (by omega) (by omega) (by omega) (by omega) (by omega) (by omega)).mono ?_;rintro e w' ⟨rfl,rfl⟩)
   | (go_at_call 120;refine(arQ _ _ _ _ _ (by omega) (by omega) (by omega) (by omega) (by omega) (by omega)).mono ?_;rintro e w' ⟨rfl,rfl⟩)
   | (go_at_call 121;refine(amw _ _ _ _ _ (by omega) (by omega) (by omega) (by omega) (by omega) (by omega)).mono ?_;rintro e w' ⟨rfl,rfl⟩)
   | (go_at_call 122;refine(amv _ _ _ _ _ (by omega) (by omega) (by omega) (by omega) (by omega) (by omega)).mono ?_;rintro e w' ⟨rfl,rfl⟩)
   | (go_at_call 123;refine(amu _ _ _ _ _ (by omega) (by omega) (by omega) (by omega) (by omega) (by omega)).mono ?_;rintro e w' ⟨rfl,rfl⟩))
  go_ret2
  exact⟨rfl,‹_›⟩
theorem au4 (op w1 a b:Int) (w:World) (hbad:(decide (op<0)||decide (12<op) ||!nN w1)=true):
  Calls Tryz.prog 25 #[.int .i8 op,.int .i8 w1,.int .u64 a,.int .u64 b] w fun e w'=>e=.returned (.tuple #[.int .u64 0,.int .i64 2])/\w=w':=by
 have hc:op<0\/(0<=op/\12<op)\/(0<=op/\op<=12/\nN w1=false):=by
  by_cases h1:op<0
  ·exact .inl h1
  ·by_cases h2:12<op
   ·exact .inr (.inl ⟨by omega,h2⟩)
   ·exact .inr (.inr ⟨by omega,by omega,by simpa[h1,h2] using hbad⟩)
 clear hbad
 rcases hc with h | ⟨h,h'⟩ | ⟨h,h',hw⟩
 all_goals
  go_enter Tryz.func25,Tryz.ntmps25
  go_wp2_with (go_at_call 63;refine(ack _ _).mono ?_;rintro e w' ⟨rfl,rfl⟩)
  go_ret2
  exact⟨rfl,rfl⟩
theorem aee (op w a b:Int) (h0:0<=a) (h1:a<=18446744073709551615) (h2:0<=b) (h3:b<=18446744073709551615):0<=zdo op w a b/\zdo op w a b<=18446744073709551615:=by
 obtain⟨ha1,ha2⟩:=gS a w h0 h1
 obtain⟨hb1,hb2⟩:=gS b w h2 h3
 obtain⟨hz1,hz2⟩:=ang op w (zcut a w) (zcut b w) (zcut b w % w) ha1 ha2 hb1 hb2
 exact gS _ _ hz1 hz2
structure Rg where
 ul:Int
 uh:Int
 sl:Int
 sh:Int
 deriving DecidableEq
def Rg.wf (r:Rg):Prop:=(0<=r.ul/\r.ul<=18446744073709551615)/\(0<=r.uh/\r.uh<=18446744073709551615)/\(-9223372036854775808<=r.sl/\r.sl<=9223372036854775807)/\(-9223372036854775808<=r.sh/\r.sh<=9223372036854775807)
abbrev s64 (v:Int):Int:=wrap64 v
theorem bZ (v:Int):s64 v=IntKind.i64.wrap v:=(Go.IntWalk.i64_left v).symm
abbrev u64 (v:Int):Int:=IntKind.u64.wrap v
theorem abN {v:Int} (h0:0<=v) (h1:v<=18446744073709551615):s64 v=if v<9223372036854775808 then v else v-18446744073709551616:=by
 rw[bZ,aR]
 split<;>omega
theorem ix (v:Int) : -9223372036854775808<=s64 v/\s64 v<=9223372036854775807:=by
 rw[bZ,aR]
 omega
theorem anm {v:Int} (h0 : -9223372036854775808<=v) (h1:v<=9223372036854775807):u64 v=if 0<=v then v else v+18446744073709551616:=by
 unfold u64
 rw[bf]
 split<;>omega
theorem ann (v:Int):0<=u64 v/\u64 v<=18446744073709551615:=by
 unfold u64
 rw[bf]
 omega
def ball:Rg:=⟨0,18446744073709551615,-9223372036854775808,9223372036854775807⟩
def bone (v:Int):Rg:=⟨v,v,s64 v,s64 v⟩
def bmay (r:Rg):Bool:=decide (r.ul<=r.uh)&&decide (r.sl<=r.sh)
def bhas (r:Rg) (v:Int):Bool:=bmay r&&((decide (r.ul<=v)&&decide (v<=r.uh))&&(decide (r.sl<=s64 v)&&decide (s64 v<=r.sh)))
def hib (v:Int):Bool:=decide (9223372036854775808<=v)
def bsgn (r:Rg):Rg:=if hib r.ul=hib r.uh then⟨r.ul,r.uh,max r.sl (s64 r.ul),min r.sh (s64 r.uh)⟩ else r
def buns (r:Rg):Rg:=if decide (r.sl<0)=decide (r.sh<0) then⟨max r.ul (u64 r.sl),min r.uh (u64 r.sh),r.sl,r.sh⟩ else r
def bnok (r:Rg):Bool:=bmay r&&(bmay (bsgn r)&&(bmay (buns (bsgn r))&&bmay (bsgn (buns (bsgn r)))))
def bnar (r:Rg):Rg:=if bnok r=true then bsgn (buns (bsgn r)) else ball
def eN (r:Rg):Bool:=decide (r.ul=r.uh)&&bhas r r.ul
def aC (r:Rg):Int:=if eN r=true then r.ul else 0
def lO (a b:Rg):Rg:=⟨min a.ul b.ul,max a.uh b.uh,min a.sl b.sl,max a.sh b.sh⟩
def jz (a b:Rg):Rg:=⟨max a.ul b.ul,min a.uh b.uh,max a.sl b.sl,min a.sh b.sh⟩
def fC (a b:Rg):Rg:=if bmay a=true/\bmay b=true then lO a b else ball
def dM (a b:Rg):Bool:=bmay a&&(bmay b&&bnok (jz a b))
def fB (a b:Rg):Rg:=if dM a b=true then bnar (jz a b) else ball
def bin (a b:Rg):Bool:=bmay a&&(bmay b&&decide (fC a b=b))
theorem ce (r:Rg):bmay r=true↔r.ul<=r.uh/\r.sl<=r.sh:=by simp[bmay]
theorem bK (r:Rg) (v:Int):bhas r v=true↔r.ul<=v/\v<=r.uh/\r.sl<=s64 v/\s64 v<=r.sh:=by
 simp only[bhas,bmay,thm0,aZ]
 constructor
 ·rintro ⟨_,⟨h1,h2⟩,h3,h4⟩;exact⟨h1,h2,h3,h4⟩
 ·rintro ⟨h1,h2,h3,h4⟩;exact⟨⟨by omega,by omega⟩,⟨h1,h2⟩,h3,h4⟩
theorem auK (a b:Int):hib a=hib b↔(9223372036854775808<=a↔9223372036854775808<=b):=by
 unfold hib
 exact decide_eq_decide
theorem bX {r:Rg} (h:r.wf):(bsgn r).wf:=by
 unfold bsgn
 split
 ·have h1:=ix r.ul
  have h2:=ix r.uh
  obtain⟨a1,a2,a3,a4⟩:=h
  refine⟨a1,a2,?_,?_⟩<;>simp only<;>omega
 ·exact h
theorem cJ {r:Rg} (h:r.wf):(buns r).wf:=by
 unfold buns
 split
 ·have h1:=ann r.sl
  have h2:=ann r.sh
  obtain⟨a1,a2,a3,a4⟩:=h
  refine⟨?_,?_,a3,a4⟩<;>simp only<;>omega
 ·exact h
theorem dN:ball.wf:=by unfold Rg.wf ball;simp
theorem rU {r:Rg} (h:r.wf):(bnar r).wf:=by
 unfold bnar
 split
 ·exact bX (cJ (bX h))
 ·exact dN
theorem aem {v:Int} (h0:0<=v) (h1:v<=18446744073709551615):(bone v).wf:=⟨⟨h0,h1⟩,⟨h0,h1⟩,ix v,ix v⟩
theorem lQ {r:Rg} (h:r.wf) {v:Int} (h0:0<=v) (h1:v<=18446744073709551615):bhas (bsgn r) v=bhas r v:=by
 rw[aJ,bK,bK]
 unfold bsgn
 split
 ·rename_i hh
  rw[auK] at hh
  obtain⟨a1,a2,a3,a4⟩:=h
  simp only
  rw[abN h0 h1,abN a1.1 a1.2,abN a2.1 a2.2]
  split<;>split<;>split<;>omega
 ·exact Iff.rfl
theorem yo {r:Rg} (h:r.wf) {v:Int} (h0:0<=v) (h1:v<=18446744073709551615):bhas (buns r) v=bhas r v:=by
 rw[aJ,bK,bK]
 unfold buns
 split
 ·rename_i hh
  rw[decide_eq_decide] at hh
  obtain⟨a1,a2,a3,a4⟩:=h
  simp only
  rw[abN h0 h1,anm a3.1 a3.2,anm a4.1 a4.2]
  split<;>split<;>split<;>omega
 ·exact Iff.rfl
theorem ee {r:Rg} {v:Int} (h:bhas r v=true):bmay r=true:=by unfold bhas at h;rw[thm0] at h;exact h.1
theorem am5 {r:Rg} (h:r.wf) {v:Int} (h0:0<=v) (h1:v<=18446744073709551615) (hv:bhas r v=true):bnok r=true:=by
 have e1:=lQ h h0 h1
 have e2:=yo (bX h) h0 h1
 have e3:=lQ (cJ (bX h)) h0 h1
 rw[hv] at e1
 rw[e1] at e2
 rw[e2] at e3
 simp[bnok,ee hv,ee e1,ee e2,ee e3]
theorem ajO {r:Rg} (h:r.wf) {v:Int} (h0:0<=v) (h1:v<=18446744073709551615) (hk:bnok r=true):bhas (bnar r) v=bhas r v:=by
 unfold bnar
 rw[if_pos hk,lQ (cJ (bX h)) h0 h1,yo (bX h) h0 h1,lQ h h0 h1]
theorem ajJ {r:Rg} (hk:bnok r=true):bmay (bnar r)=true:=by
 have:=hk
 unfold bnok at this
 simp only[thm0] at this
 unfold bnar
 rw[if_pos hk]
 exact this.2.2.2
def tbB (x:Int) (i:Nat):Bool:=(BitVec.ofInt 64 x).getLsbD i
theorem ajF (x:BitVec 64):BitVec.ofInt 64 (x.toNat:Int)=x:=by simp
theorem acN (x:Int):BitVec.ofInt 64 (IntKind.i64.wrap x)=BitVec.ofInt 64 x:=by
 apply BitVec.eq_of_toNat_eq
 rw[BitVec.toNat_ofInt,BitVec.toNat_ofInt,aR]
 omega
theorem asz (x y:Int):BitVec.ofInt 64 (bits .and .i64 x y)=BitVec.ofInt 64 x &&& BitVec.ofInt 64 y:=(acN _).trans (ajF _)
theorem asy (x y:Int):BitVec.ofInt 64 (bits .xor .i64 x y)=BitVec.ofInt 64 x ^^^ BitVec.ofInt 64 y:=(acN _).trans (ajF _)
theorem afx (x y:Int) (i:Nat):tbB (bits .and .i64 x y) i=(tbB x i&&tbB y i):=by unfold tbB;rw[asz,BitVec.getLsbD_and]
theorem sj (x y:Int) (i:Nat):tbB (bits .xor .i64 x y) i=(tbB x i ^^ tbB y i):=by unfold tbB;rw[asy,BitVec.getLsbD_xor]
theorem mY {x:Int} (h0 : -9223372036854775808<=x) (h1:x<=9223372036854775807):decide (x<0)=tbB x 63:=by
 unfold tbB
 rw[BitVec.getLsbD,Nat.testBit_eq_decide_div_mod_eq,decide_eq_decide,BitVec.toNat_ofInt]
 omega
theorem amK (op:BinOp) (x y:Int):∃z,bits op .i64 x y=IntKind.i64.wrap z:=⟨_,rfl⟩
theorem aoi (op:BinOp) (x y:Int) : -9223372036854775808<=bits op .i64 x y/\bits op .i64 x y<=9223372036854775807:=by
 obtain⟨z,h⟩:=amK op x y
 rw[h,<-bZ];exact ix z
theorem aim {a b:Int} (a0 : -9223372036854775808<=a) (a1:a<=9223372036854775807) (b0 : -9223372036854775808<=b) (b1:b<=9223372036854775807):
  decide (0<=bits .and .i64 (bits .xor .i64 a (wrap64 (a+b))) (bits .xor .i64 b (wrap64 (a+b))))=decide (-9223372036854775808<=a+b/\a+b<=9223372036854775807):=by
 have hs:=ix (a+b)
 have hw:s64 (a+b)=(a+b+9223372036854775808) % 18446744073709551616-9223372036854775808:=by rw[bZ];exact aR _
 have hb:=aoi .and (bits .xor .i64 a (s64 (a+b))) (bits .xor .i64 b (s64 (a+b)))
 have e:=mY hb.1 hb.2
 rw[afx,sj,sj,<-mY a0 a1,<-mY b0 b1,<-mY hs.1 hs.2] at e
 show decide (0<=bits .and .i64 (bits .xor .i64 a (s64 (a+b))) (bits .xor .i64 b (s64 (a+b))))=_
 generalize bits .and .i64 (bits .xor .i64 a (s64 (a+b))) (bits .xor .i64 b (s64 (a+b)))=t at e hb
 generalize s64 (a+b)=s at *
 rw[decide_eq_decide]
 by_cases h1:a<0<;>by_cases h2:b<0<;>by_cases h3:s<0<;>simp[h1,h2,h3] at e<;>omega
theorem adu {a b:Int} (a0 : -9223372036854775808<=a) (a1:a<=9223372036854775807) (b0 : -9223372036854775808<=b) (b1:b<=9223372036854775807):
  decide (0<=bits .and .i64 (bits .xor .i64 a b) (bits .xor .i64 a (wrap64 (a-b))))=decide (-9223372036854775808<=a-b/\a-b<=9223372036854775807):=by
 have hs:=ix (a-b)
 have hw:s64 (a-b)=(a-b+9223372036854775808) % 18446744073709551616-9223372036854775808:=by rw[bZ];exact aR _
 have hb:=aoi .and (bits .xor .i64 a b) (bits .xor .i64 a (s64 (a-b)))
 have e:=mY hb.1 hb.2
 rw[afx,sj,sj,<-mY a0 a1,<-mY b0 b1,<-mY hs.1 hs.2] at e
 show decide (0<=bits .and .i64 (bits .xor .i64 a b) (bits .xor .i64 a (s64 (a-b))))=_
 generalize bits .and .i64 (bits .xor .i64 a b) (bits .xor .i64 a (s64 (a-b)))=t at e hb
 generalize s64 (a-b)=s at *
 rw[decide_eq_decide]
 by_cases h1:a<0<;>by_cases h2:b<0<;>by_cases h3:s<0<;>simp[h1,h2,h3] at e<;>omega
def aE (n:Nat):Nat:=if n=0 then 0 else Nat.log2 n+1
def lR (v:Int):Int:=2 ^ aE v.toNat-1
theorem uT (n:Nat):n<2 ^ aE n:=by
 unfold aE
 split
 ·subst_vars;simp
 ·exact Nat.lt_log2_self
theorem ajK {n:Nat} (h:n≠0):2 ^ (aE n-1)<=n:=by
 unfold aE
 rw[if_neg h]
 exact Nat.log2_self_le h
theorem eP {n k:Nat} (h:n<2 ^ k):aE n<=k:=by
 rcases Nat.eq_zero_or_pos n with h0 | h0
 ·simp[aE,h0]
 ·have h1:=ajK (n:=n) (by omega)
  rcases aX k (aE n) with hk | hk
  ·have:2 ^ k<=2 ^ (aE n-1):=Nat.pow_le_pow_right (by omega) (by omega)
   omega
  ·exact hk
theorem uU {v:Int} (h:v<=18446744073709551615):0<=lR v/\lR v<=18446744073709551615:=by
 have h1:v.toNat<2 ^ 64:=by omega
 have h2:=eP h1
 have h3:2 ^ aE v.toNat<=2 ^ 64:=Nat.pow_le_pow_right (by omega) h2
 have h4:0<2 ^ aE v.toNat:=Nat.pow_pos (by omega)
 unfold lR
 have:((2:Int) ^ aE v.toNat)=((2 ^ aE v.toNat:Nat):Int):=by simp
 rw[this]
 omega
def bsum (a b:Rg):Rg:=
 ⟨if a.uh+b.uh<=18446744073709551615 then a.ul+b.ul else 0,if a.uh+b.uh<=18446744073709551615 then a.uh+b.uh else 18446744073709551615,
  if(-9223372036854775808<=a.sl+b.sl/\a.sl+b.sl<=9223372036854775807)/\(-9223372036854775808<=a.sh+b.sh/\a.sh+b.sh<=9223372036854775807) then a.sl+b.sl else -9223372036854775808,
  if(-9223372036854775808<=a.sl+b.sl/\a.sl+b.sl<=9223372036854775807)/\(-9223372036854775808<=a.sh+b.sh/\a.sh+b.sh<=9223372036854775807) then a.sh+b.sh else 9223372036854775807⟩
def bdif (a b:Rg):Rg:=
 ⟨if b.uh<=a.ul then a.ul-b.uh else 0,if b.uh<=a.ul then a.uh-b.ul else 18446744073709551615,
  if(-9223372036854775808<=a.sl-b.sh/\a.sl-b.sh<=9223372036854775807)/\(-9223372036854775808<=a.sh-b.sl/\a.sh-b.sl<=9223372036854775807) then a.sl-b.sh else -9223372036854775808,
  if(-9223372036854775808<=a.sl-b.sh/\a.sl-b.sh<=9223372036854775807)/\(-9223372036854775808<=a.sh-b.sl/\a.sh-b.sl<=9223372036854775807) then a.sh-b.sl else 9223372036854775807⟩
def bu (l h:Int):Rg:=⟨l,h,-9223372036854775808,9223372036854775807⟩
def bby (b:Rg):Nat:=(b.ul % 64).toNat
def bdo0 (op:Int) (a b:Rg):Rg:=
 if op=11 then b else if op=0 then bsum a b else if op=1 then bdif a b
 else if op=5 then bu 0 (min a.uh b.uh)
 else if op=4 then bu (max a.ul b.ul) (lR (max a.uh b.uh))
 else if op=10 then bu 0 (lR (max a.uh b.uh))
 else if op=3 then(if 0<b.ul then bu (a.ul / b.uh) (a.uh / b.ul) else bu 0 a.uh)
 else if op=9 then(if 0<b.ul then bu 0 (min a.uh (b.uh-1)) else bu 0 a.uh)
 else if op=7 then(if eN b=true then bu (a.ul / 2 ^ bby b) (a.uh / 2 ^ bby b) else ball)
 else if op=6 then(if eN b=true/\aE a.uh.toNat+bby b<=64 then bu (a.ul*2 ^ bby b) (a.uh*2 ^ bby b) else ball)
 else ball
def bdo (op:Int) (a b:Rg):Rg:=if bmay a=true/\bmay b=true then bnar (bdo0 op a b) else ball
theorem qo {l h:Int} (h0:0<=l) (h1:l<=18446744073709551615) (h2:0<=h) (h3:h<=18446744073709551615):(bu l h).wf:=⟨⟨h0,h1⟩,⟨h2,h3⟩,by simp[bu],by simp[bu]⟩
theorem apr {a b:Rg} (ha:a.wf) (hb:b.wf) (h1:bmay a=true) (h2:bmay b=true):(bsum a b).wf:=by
 rw[ce] at h1 h2
 obtain⟨a1,a2,a3,a4⟩:=ha
 obtain⟨b1,b2,b3,b4⟩:=hb
 unfold bsum
 refine⟨?_,?_,?_,?_⟩<;>simp only<;>split<;>omega
theorem apv {a b:Rg} (ha:a.wf) (hb:b.wf) (h1:bmay a=true) (h2:bmay b=true):(bdif a b).wf:=by
 rw[ce] at h1 h2
 obtain⟨a1,a2,a3,a4⟩:=ha
 obtain⟨b1,b2,b3,b4⟩:=hb
 unfold bdif
 refine⟨?_,?_,?_,?_⟩<;>simp only<;>split<;>omega
theorem anx {x:Int} (h0:0<=x) (k:Nat):0<=x / 2 ^ k/\x / 2 ^ k<=x:=by
 have hp:(0:Int)<2 ^ k:=Int.pow_pos (by omega)
 refine⟨Int.ediv_nonneg h0 (by omega),Int.ediv_le_self _ h0⟩
theorem anz {x y:Int} (h0:0<=x) (hy:x<=y) {k:Nat} (h:aE y.toNat+k<=64):0<=x*2 ^ k/\x*2 ^ k<=y*2 ^ k/\y*2 ^ k<=18446744073709551615:=by
 have hp:(0:Int)<2 ^ k:=Int.pow_pos (by omega)
 refine⟨Int.mul_nonneg h0 (by omega),Int.mul_le_mul_of_nonneg_right hy (by omega),?_⟩
 have h1:=uT y.toNat
 have h2:(y.toNat+1)*2 ^ k<=2 ^ aE y.toNat*2 ^ k:=Nat.mul_le_mul_right _ (by omega)
 rw[<-Nat.pow_add] at h2
 have h3:2 ^ (aE y.toNat+k)<=2 ^ 64:=Nat.pow_le_pow_right (by omega) h
 have h4:0<2 ^ k:=Nat.pow_pos (by omega)
 have e:y*2 ^ k=((y.toNat*2 ^ k:Nat):Int):=by
  have:((y.toNat:Nat):Int)=y:=by omega
  rw[Int.natCast_mul,this];simp
 rw[e]
 rw[Nat.add_mul] at h2
 omega
theorem ajs {x y z:Int} (h0:0<=x) (h1:x<=18446744073709551615) (hy:0<y):0<=x / y/\x / y<=18446744073709551615:=by
 have:=Int.ediv_le_self y h0
 exact⟨Int.ediv_nonneg h0 (by omega),by omega⟩
theorem apu {op:Int} {a b:Rg} (ha:a.wf) (hb:b.wf) (h1:bmay a=true) (h2:bmay b=true):(bdo0 op a b).wf:=by
 have m1:=(ce a).1 h1
 have m2:=(ce b).1 h2
 have ha':=ha
 have hb':=hb
 obtain⟨a1,a2,a3,a4⟩:=ha'
 obtain⟨b1,b2,b3,b4⟩:=hb'
 have f:=uU (v:=max a.uh b.uh) (by omega)
 unfold bdo0
 by_cases o11:op=11
 ·rw[if_pos o11]
  exact hb
 rw[if_neg o11]
 by_cases o0:op=0
 ·rw[if_pos o0]
  exact apr ha hb h1 h2
 rw[if_neg o0]
 by_cases o1:op=1
 ·rw[if_pos o1]
  exact apv ha hb h1 h2
 rw[if_neg o1]
 by_cases o5:op=5
 ·rw[if_pos o5]
  exact qo (by omega) (by omega) (by omega) (by omega)
 rw[if_neg o5]
 by_cases o4:op=4
 ·rw[if_pos o4]
  exact qo (by omega) (by omega) f.1 f.2
 rw[if_neg o4]
 by_cases o10:op=10
 ·rw[if_pos o10]
  exact qo (by omega) (by omega) f.1 f.2
 rw[if_neg o10]
 by_cases o3:op=3
 ·rw[if_pos o3]
  split
  ·have e1:=ajs (z:=0) a1.1 a1.2 (show 0<b.uh by omega)
   have e2:=ajs (z:=0) a2.1 a2.2 (show 0<b.ul by omega)
   exact qo e1.1 e1.2 e2.1 e2.2
  ·exact qo (by omega) (by omega) (by omega) (by omega)
 rw[if_neg o3]
 by_cases o9:op=9
 ·rw[if_pos o9]
  split
  ·exact qo (by omega) (by omega) (by omega) (by omega)
  ·exact qo (by omega) (by omega) (by omega) (by omega)
 rw[if_neg o9]
 by_cases o7:op=7
 ·rw[if_pos o7]
  split
  ·have e1:=anx a1.1 (bby b)
   have e2:=anx a2.1 (bby b)
   exact qo e1.1 (by omega) e2.1 (by omega)
  ·exact dN
 rw[if_neg o7]
 by_cases o6:op=6
 ·rw[if_pos o6]
  split
  ·rename_i h
   have e1:=anz a1.1 m1.1 h.2
   exact qo e1.1 (by omega) (by omega) (by omega)
  ·exact dN
 rw[if_neg o6]
 exact dN
theorem aeo {op:Int} {a b:Rg} (ha:a.wf) (hb:b.wf):(bdo op a b).wf:=by
 unfold bdo
 split
 ·rename_i h
  exact rU (apu ha hb h.1 h.2)
 ·exact dN
theorem ai9 {a b:Rg} {v:Int} (h1:bhas a v=true) (h2:bmay b=true):bhas (fC a b) v=true:=by
 unfold fC
 rw[if_pos ⟨ee h1,h2⟩]
 rw[bK] at h1 ⊢
 unfold lO
 simp only
 omega
theorem ai8 {a b:Rg} {v:Int} (h1:bmay a=true) (h2:bhas b v=true):bhas (fC a b) v=true:=by
 unfold fC
 rw[if_pos ⟨h1,ee h2⟩]
 rw[bK] at h2 ⊢
 unfold lO
 simp only
 omega
theorem asA {a b:Rg}:bin a b=true↔(bmay a=true/\bmay b=true)/\b.ul<=a.ul/\a.uh<=b.uh/\b.sl<=a.sl/\a.sh<=b.sh:=by
 unfold bin
 rw[thm0,thm0,aZ]
 constructor
 ·rintro ⟨h1,h2,h3⟩
  refine⟨⟨h1,h2⟩,?_⟩
  unfold fC at h3
  rw[if_pos ⟨h1,h2⟩] at h3
  obtain⟨b1,b2,b3,b4⟩:=b
  simp only[lO,Rg.mk.injEq] at h3 ⊢
  omega
 ·rintro ⟨⟨h1,h2⟩,h3⟩
  refine⟨h1,h2,?_⟩
  unfold fC
  rw[if_pos ⟨h1,h2⟩]
  obtain⟨b1,b2,b3,b4⟩:=b
  simp only[lO,Rg.mk.injEq] at h3 ⊢
  omega
def Rg.Sub (a b:Rg):Prop:=b.ul<=a.ul/\a.uh<=b.uh/\b.sl<=a.sl/\a.sh<=b.sh
theorem Rg.Sub.refl (a:Rg):a.Sub a:=⟨Int.le_refl _,Int.le_refl _,Int.le_refl _,Int.le_refl _⟩
theorem Rg.Sub.trans {a b c:Rg} (h:a.Sub b) (g:b.Sub c):a.Sub c:=by
 obtain⟨h1,h2,h3,h4⟩:=h
 obtain⟨g1,g2,g3,g4⟩:=g
 exact⟨by omega,by omega,by omega,by omega⟩
theorem aaV (r:Rg):(bsgn r).Sub r:=by
 unfold bsgn
 split
 ·unfold Rg.Sub;simp only;omega
 ·exact Rg.Sub.refl r
theorem akt (r:Rg):(buns r).Sub r:=by
 unfold buns
 split
 ·unfold Rg.Sub;simp only;omega
 ·exact Rg.Sub.refl r
theorem aku {r:Rg} (h:bnok r=true):(bnar r).Sub r:=by
 unfold bnar
 rw[if_pos h]
 exact(aaV _).trans ((akt _).trans (aaV _))
theorem avg {a b:Rg} (h1:bmay a=true) (h2:bmay b=true) (h:a.Sub b):bin a b=true:=asA.2 ⟨⟨h1,h2⟩,h⟩
theorem rS {a b:Rg} (ha:a.wf) (hb:b.wf):(jz a b).wf:=by
 obtain⟨a1,a2,a3,a4⟩:=ha
 obtain⟨b1,b2,b3,b4⟩:=hb
 unfold jz
 refine⟨?_,?_,?_,?_⟩<;>simp only<;>omega
theorem ai7 {a b:Rg} {v:Int}:bhas (jz a b) v=(bhas a v&&bhas b v):=by
 rw[aJ,thm0,bK,bK,bK]
 unfold jz
 simp only
 omega
theorem amL {a b:Rg} (ha:a.wf) (hb:b.wf) {v:Int} (v0:0<=v) (v1:v<=18446744073709551615) (h:bhas b v=true):bhas a v=(dM a b&&bhas (fB a b) v):=by
 have e:=ai7 (a:=a) (b:=b) (v:=v)
 rw[h,Bool.and_true] at e
 cases hm:dM a b
 ·rw[aP]
  cases hv:bhas a v
  ·rfl
  ·exfalso
   rw[hv] at e
   have:=am5 (rS ha hb) v0 v1 e
   simp[dM,ee hv,ee h,this] at hm
 ·rw[Bool.true_and]
  unfold fB
  rw[if_pos hm]
  unfold dM at hm
  simp only[thm0] at hm
  rw[ajO (rS ha hb) v0 v1 hm.2.2,e]
theorem aks {a b:Rg} (h:dM a b=true):(fB a b).Sub a/\bmay (fB a b)=true:=by
 have h':=h
 unfold dM at h'
 simp only[thm0] at h'
 unfold fB
 rw[if_pos h]
 refine⟨(aku h'.2.2).trans ?_,ajJ h'.2.2⟩
 unfold Rg.Sub jz
 simp only
 omega
def blow (r:Rg):Rg:=if bmay r=true/\r.uh<=4294967295 then r else bnar (bu 0 4294967295)
def bcan (cc:Int) (a b:Rg):Bool:=
 if cc=1 then(if eN b=true then !decide (a.ul=b.ul/\a.uh=b.ul) &&!decide (a.sl=s64 b.ul/\a.sh=s64 b.ul) else true)
 else if cc=2 then !decide (b.ul=18446744073709551615) else if cc=4 then !decide (b.uh=0) else if cc=6 then !decide (b.sl=9223372036854775807) else if cc=8 then !decide (b.sh = -9223372036854775808) else true
def brng (cc:Int) (a b:Rg):Rg:=
 if cc=1 then(if eN b=true then⟨if a.ul=b.ul then a.ul+1 else a.ul,if a.ul≠b.ul/\a.uh=b.ul then a.uh-1 else a.uh,if a.sl=s64 b.ul then a.sl+1 else a.sl,if a.sl≠s64 b.ul/\a.sh=s64 b.ul then a.sh-1 else a.sh⟩ else a)
 else if cc=2 then⟨max a.ul (b.ul+1),a.uh,a.sl,a.sh⟩ else if cc=3 then⟨max a.ul b.ul,a.uh,a.sl,a.sh⟩
 else if cc=4 then⟨a.ul,min a.uh (b.uh-1),a.sl,a.sh⟩ else if cc=5 then⟨a.ul,min a.uh b.uh,a.sl,a.sh⟩
 else if cc=6 then⟨a.ul,a.uh,max a.sl (b.sl+1),a.sh⟩ else if cc=7 then⟨a.ul,a.uh,max a.sl b.sl,a.sh⟩
 else if cc=8 then⟨a.ul,a.uh,a.sl,min a.sh (b.sh-1)⟩ else if cc=9 then⟨a.ul,a.uh,a.sl,min a.sh b.sh⟩ else a
def jn (cc:Int) (a b:Rg):Bool:=bmay a&&(bmay b&&(decide (0<=cc)&&decide (cc<=10)))
def bgok (cc:Int) (a b:Rg):Bool:=jn cc a b&&(if cc=0 then dM a b else bcan cc a b&&bnok (brng cc a b))
def bgiv (cc:Int) (a b:Rg):Rg:=if bgok cc a b=true then(if cc=0 then fB a b else bnar (brng cc a b)) else ball
open Go.ChangeShapes Go.WideShapes
structure Pu where
 lo:Int
 hi:Int
structure Pi where
 lo:Int
 hi:Int
theorem Rg.eta (a:Rg):(⟨a.ul,a.uh,a.sl,a.sh⟩:Rg)=a:=rfl
def Rg.ok (a:Rg):Prop:=inK .u64 a.ul=true/\inK .u64 a.uh=true/\inK .i64 a.sl=true/\inK .i64 a.sh=true
def kRg:List CK:=[.int .u64,.int .u64,.int .i64,.int .i64]
theorem Pu.eta (a:Pu):(⟨a.lo,a.hi⟩:Pu)=a:=rfl
def Pu.ok (a:Pu):Prop:=inK .u64 a.lo=true/\inK .u64 a.hi=true
def kPu:List CK:=[.int .u64,.int .u64]
theorem Pi.eta (a:Pi):(⟨a.lo,a.hi⟩:Pi)=a:=rfl
def Pi.ok (a:Pi):Prop:=inK .i64 a.lo=true/\inK .i64 a.hi=true
def kPi:List CK:=[.int .i64,.int .i64]
def tys_XbA:List (Nat×TI):=[(2,tiq2),
 (42,fF),
 (44,gO),
 (209,afw),
 (213,afv)]
theorem ae7:(tys_XbA.all fun p=>ckTI Tryz.prog p.1 p.2)=true:=by kernel_rfl
theorem vv:(tys_XbA.all fun p=>!p.2.eqok)=true:=by kernel_rfl
theorem aeL:(tys_XbA.all fun p=>!p.2.keyok)=true:=by kernel_rfl
theorem bg:∀t i,(t,i)∈tys_XbA->TIok Tryz.prog t i:=by
 intro t i h
 refine bB (cz (f:=ckTI Tryz.prog) ae7 h) (fun he=> ?_) (fun he=> ?_) (fun he=> ?_)
 ·have h1:=thm7.1 vv (t,i) h
  simp[he] at h1
 ·have h1:=thm7.1 vv (t,i) h
  simp[he] at h1
 ·have h1:=thm7.1 aeL (t,i) h
  simp[he] at h1
def mQ (key:Nat):Sm:=⟨174,key,[.agg kRg],[.agg kPu],false⟩
def mO (a:Rg):List Dt:=[.z (((⟨a.ul,a.uh⟩:Pu)).lo),.z (((⟨a.ul,a.uh⟩:Pu)).hi)]
def ew:List Dt->List Dt
 | [.z x0,.z x1,.z x2,.z x3]=>mO ⟨x0,x1,x2,x3⟩
 | _=>[]
def sT_uns:Tr:=
(.leaf (.vs 0 2 .nil))
def anI:Spec:={F:=fun k=>match k with | _=>fun _=>[],pre:=fun _ _=>True}
theorem atA:ap tys_XbA [] [] [] [] 200 Tryz.f174 [.agg kRg] [.agg kPu] false [.int .u64,.int .u64,.int .i64,.int .i64] sT_uns:=⟨by kernel_rfl,by kernel_rfl,by kernel_rfl⟩
theorem atb (a:Rg) (ha:Rg.ok a) (U:Env) (g:varsD U 0 [.int .u64,.int .u64,.int .i64,.int .i64]=[.z a.ul,.z a.uh,.z a.sl,.z a.sh]):sT_uns.asks anI (fun U e=>e.D U=ew [.z a.ul,.z a.uh,.z a.sl,.z a.sh]) U fun _ _=>False:=by
 simp only[varsD,varD,thm5,gS0,Nat.reduceAdd,and_true] at g
 simp only[sT_uns,anI,ew,mO,simQ,ai,S1,Nat.reduceSub,Nat.reduceAdd,-eq_self,Rg.eta,g]
 ·rfl
theorem mxo6:Tryz.prog.follows .mixedOrders=true:=by kernel_rfl
theorem qQ {sp:Spec} {key:Nat} (hF:sp.F key=ew) (hP:sp.pre key=fun _=>True:=by rfl):SmOk Tryz.prog sp (mQ key):=
 aq (s:=mQ key) hF hP mxo6 bg (sm0) Tryz.func174 fn0 atA (.inl rfl) (fun x0 gx0 x1 gx1 x2 gx2 x3 gx3 hp U g=>atb ⟨x0,x1,x2,x3⟩ ⟨gx0,gx1,gx2,gx3⟩ U g)
def mR (key:Nat):Sm:=⟨176,key,[.agg kRg],[.agg kPi],false⟩
def mP (a:Rg):List Dt:=[.z (((⟨a.sl,a.sh⟩:Pi)).lo),.z (((⟨a.sl,a.sh⟩:Pi)).hi)]
def ez:List Dt->List Dt
 | [.z x0,.z x1,.z x2,.z x3]=>mP ⟨x0,x1,x2,x3⟩
 | _=>[]
def sT_sig:Tr:=
(.leaf (.vs 2 2 .nil))
def anL:Spec:={F:=fun k=>match k with | _=>fun _=>[],pre:=fun _ _=>True}
theorem atD:ap tys_XbA [] [] [] [] 200 Tryz.f176 [.agg kRg] [.agg kPi] false [.int .u64,.int .u64,.int .i64,.int .i64] sT_sig:=⟨by kernel_rfl,by kernel_rfl,by kernel_rfl⟩
theorem ate (a:Rg) (ha:Rg.ok a) (U:Env) (g:varsD U 0 [.int .u64,.int .u64,.int .i64,.int .i64]=[.z a.ul,.z a.uh,.z a.sl,.z a.sh]):sT_sig.asks anL (fun U e=>e.D U=ez [.z a.ul,.z a.uh,.z a.sl,.z a.sh]) U fun _ _=>False:=by
 simp only[varsD,varD,thm5,gS0,Nat.reduceAdd,and_true] at g
 simp only[sT_sig,anL,ez,mP,simQ,ai,S1,Nat.reduceSub,Nat.reduceAdd,-eq_self,Rg.eta,g]
 ·rfl
theorem qR {sp:Spec} {key:Nat} (hF:sp.F key=ez) (hP:sp.pre key=fun _=>True:=by rfl):SmOk Tryz.prog sp (mR key):=
 aq (s:=mR key) hF hP mxo6 bg (sm0) Tryz.func176 fn0 atD (.inl rfl) (fun x0 gx0 x1 gx1 x2 gx2 x3 gx3 hp U g=>ate ⟨x0,x1,x2,x3⟩ ⟨gx0,gx1,gx2,gx3⟩ U g)
def zq (key:Nat):Sm:=⟨219,key,[.agg kPu],[.one .bool],false⟩
def yX (a:Pu):List Dt:=[.z (b2i (decide (a.lo<=a.hi)))]
def pf:List Dt->List Dt
 | [.z x0,.z x1]=>yX ⟨x0,x1⟩
 | _=>[]
def sT_umay:Tr:=
(.leaf (.cb (.not (.lt (.var 1) (.var 0))) .nil))
def agZ:Spec:={F:=fun k=>match k with | _=>fun _=>[],pre:=fun _ _=>True}
theorem aqR:ap tys_XbA [] [] [] [] 200 Tryz.f219 [.agg kPu] [.one .bool] false [.int .u64,.int .u64] sT_umay:=⟨by kernel_rfl,by kernel_rfl,by kernel_rfl⟩
theorem ap9 (a:Pu) (ha:Pu.ok a) (U:Env) (g:varsD U 0 [.int .u64,.int .u64]=[.z a.lo,.z a.hi]):sT_umay.asks agZ (fun U e=>e.D U=pf [.z a.lo,.z a.hi]) U fun _ _=>False:=by
 simp only[varsD,varD,thm5,gS0,Nat.reduceAdd,and_true] at g
 simp only[sT_umay,agZ,pf,yX,simQ,ai,S1,Nat.reduceSub,Nat.reduceAdd,-eq_self,Pu.eta,g]
 ·simp[cq]
theorem arp {sp:Spec} {key:Nat} (hF:sp.F key=pf) (hP:sp.pre key=fun _=>True:=by rfl):SmOk Tryz.prog sp (zq key):=
 aq (s:=zq key) hF hP mxo6 bg (sm0) Tryz.func219 fn0 aqR (.inl rfl) (fun x0 gx0 x1 gx1 hp U g=>ap9 ⟨x0,x1⟩ ⟨gx0,gx1⟩ U g)
def zC (key:Nat):Sm:=⟨220,key,[.agg kPi],[.one .bool],false⟩
def zh (a:Pi):List Dt:=[.z (b2i (decide (a.lo<=a.hi)))]
def pt:List Dt->List Dt
 | [.z x0,.z x1]=>zh ⟨x0,x1⟩
 | _=>[]
def sT_imay:Tr:=
(.leaf (.cb (.not (.lt (.var 1) (.var 0))) .nil))
def ahn:Spec:={F:=fun k=>match k with | _=>fun _=>[],pre:=fun _ _=>True}
theorem ard:ap tys_XbA [] [] [] [] 200 Tryz.f220 [.agg kPi] [.one .bool] false [.int .i64,.int .i64] sT_imay:=⟨by kernel_rfl,by kernel_rfl,by kernel_rfl⟩
theorem aqv (a:Pi) (ha:Pi.ok a) (U:Env) (g:varsD U 0 [.int .i64,.int .i64]=[.z a.lo,.z a.hi]):sT_imay.asks ahn (fun U e=>e.D U=pt [.z a.lo,.z a.hi]) U fun _ _=>False:=by
 simp only[varsD,varD,thm5,gS0,Nat.reduceAdd,and_true] at g
 simp only[sT_imay,ahn,pt,zh,simQ,ai,S1,Nat.reduceSub,Nat.reduceAdd,-eq_self,Pi.eta,g]
 ·simp[cq]
theorem ary {sp:Spec} {key:Nat} (hF:sp.F key=pt) (hP:sp.pre key=fun _=>True:=by rfl):SmOk Tryz.prog sp (zC key):=
 aq (s:=zC key) hF hP mxo6 bg (sm0) Tryz.func220 fn0 ard (.inl rfl) (fun x0 gx0 x1 gx1 hp U g=>aqv ⟨x0,x1⟩ ⟨gx0,gx1⟩ U g)
def zt (key:Nat):Sm:=⟨175,key,[.agg kPu,.one (.int .u64)],[.one .bool],false⟩
def yY (a:Pu) (v:Int):List Dt:=[.z (b2i ((decide (a.lo<=v)&&decide (v<=a.hi))))]
def pg:List Dt->List Dt
 | [.z x0,.z x1,.z x2]=>yY ⟨x0,x1⟩ x2
 | _=>[]
def sT_uhas:Tr:=
(.br (.lt (.var 2) (.var 0))
(.leaf (.cb (.tt false) .nil))
(.leaf (.cb (.not (.lt (.var 1) (.var 2))) .nil)))
def ag0:Spec:={F:=fun k=>match k with | _=>fun _=>[],pre:=fun _ _=>True}
theorem aqS:ap tys_XbA [] [] [] [] 200 Tryz.f175 [.agg kPu,.one (.int .u64)] [.one .bool] false [.int .u64,.int .u64,.int .u64] sT_uhas:=⟨by kernel_rfl,by kernel_rfl,by kernel_rfl⟩
theorem aqa (a:Pu) (ha:Pu.ok a) (v:Int) (hv:inK .u64 v=true) (U:Env) (g:varsD U 0 [.int .u64,.int .u64,.int .u64]=[.z a.lo,.z a.hi,.z v]):sT_uhas.asks ag0 (fun U e=>e.D U=pg [.z a.lo,.z a.hi,.z v]) U fun _ _=>False:=by
 simp only[varsD,varD,thm5,gS0,Nat.reduceAdd,and_true] at g
 simp only[sT_uhas,ag0,pg,yY,simQ,ai,S1,Nat.reduceSub,Nat.reduceAdd,-eq_self,Pu.eta,g]
 constructor<;>intro c0
 ·simp_all [cq]
 ·simp_all [cq]
theorem arq {sp:Spec} {key:Nat} (hF:sp.F key=pg) (hP:sp.pre key=fun _=>True:=by rfl):SmOk Tryz.prog sp (zt key):=
 aq (s:=zt key) hF hP mxo6 bg (sm0) Tryz.func175 fn0 aqS (.inl rfl) (fun x0 gx0 x1 gx1 x2 gx2 hp U g=>aqa ⟨x0,x1⟩ ⟨gx0,gx1⟩ x2 gx2 U g)
def zD (key:Nat):Sm:=⟨177,key,[.agg kPi,.one (.int .i64)],[.one .bool],false⟩
def zi (a:Pi) (v:Int):List Dt:=[.z (b2i ((decide (a.lo<=v)&&decide (v<=a.hi))))]
def pu:List Dt->List Dt
 | [.z x0,.z x1,.z x2]=>zi ⟨x0,x1⟩ x2
 | _=>[]
def sT_ihas:Tr:=
(.br (.lt (.var 2) (.var 0))
(.leaf (.cb (.tt false) .nil))
(.leaf (.cb (.not (.lt (.var 1) (.var 2))) .nil)))
def aho:Spec:={F:=fun k=>match k with | _=>fun _=>[],pre:=fun _ _=>True}
theorem are:ap tys_XbA [] [] [] [] 200 Tryz.f177 [.agg kPi,.one (.int .i64)] [.one .bool] false [.int .i64,.int .i64,.int .i64] sT_ihas:=⟨by kernel_rfl,by kernel_rfl,by kernel_rfl⟩
theorem aqw (a:Pi) (ha:Pi.ok a) (v:Int) (hv:inK .i64 v=true) (U:Env) (g:varsD U 0 [.int .i64,.int .i64,.int .i64]=[.z a.lo,.z a.hi,.z v]):sT_ihas.asks aho (fun U e=>e.D U=pu [.z a.lo,.z a.hi,.z v]) U fun _ _=>False:=by
 simp only[varsD,varD,thm5,gS0,Nat.reduceAdd,and_true] at g
 simp only[sT_ihas,aho,pu,zi,simQ,ai,S1,Nat.reduceSub,Nat.reduceAdd,-eq_self,Pi.eta,g]
 constructor<;>intro c0
 ·simp_all [cq]
 ·simp_all [cq]
theorem arz {sp:Spec} {key:Nat} (hF:sp.F key=pu) (hP:sp.pre key=fun _=>True:=by rfl):SmOk Tryz.prog sp (zD key):=
 aq (s:=zD key) hF hP mxo6 bg (sm0) Tryz.func177 fn0 are (.inl rfl) (fun x0 gx0 x1 gx1 x2 gx2 hp U g=>aqw ⟨x0,x1⟩ ⟨gx0,gx1⟩ x2 gx2 U g)
def nA (key:Nat):Sm:=⟨236,key,[.agg kPu,.agg kPu],[.agg kPu],false⟩
def nu (a:Pu) (b:Pu):List Dt:=[.z (((⟨max a.lo b.lo,min a.hi b.hi⟩:Pu)).lo),.z (((⟨max a.lo b.lo,min a.hi b.hi⟩:Pu)).hi)]
def gj:List Dt->List Dt
 | [.z x0,.z x1,.z x2,.z x3]=>nu ⟨x0,x1⟩ ⟨x2,x3⟩
 | _=>[]
def sT_umeet:Tr:=
(.leaf (.cons (.mx (.var 0) (.var 2)) (.cons (.mn (.var 1) (.var 3)) .nil)))
def abl:Spec:={F:=fun k=>match k with | _=>fun _=>[],pre:=fun _ _=>True}
theorem alB:ap tys_XbA [] [] [] [] 200 Tryz.f236 [.agg kPu,.agg kPu] [.agg kPu] false [.int .u64,.int .u64,.int .u64,.int .u64] sT_umeet:=⟨by kernel_rfl,by kernel_rfl,by kernel_rfl⟩
theorem ak1 (a:Pu) (ha:Pu.ok a) (b:Pu) (hb:Pu.ok b) (U:Env) (g:varsD U 0 [.int .u64,.int .u64,.int .u64,.int .u64]=[.z a.lo,.z a.hi,.z b.lo,.z b.hi]):sT_umeet.asks abl (fun U e=>e.D U=gj [.z a.lo,.z a.hi,.z b.lo,.z b.hi]) U fun _ _=>False:=by
 simp only[varsD,varD,thm5,gS0,Nat.reduceAdd,and_true] at g
 simp only[sT_umeet,abl,gj,nu,simQ,ai,S1,Nat.reduceSub,Nat.reduceAdd,-eq_self,Pu.eta,g]
 ·rfl
theorem abJ {sp:Spec} {key:Nat} (hF:sp.F key=gj) (hP:sp.pre key=fun _=>True:=by rfl):SmOk Tryz.prog sp (nA key):=
 aq (s:=nA key) hF hP mxo6 bg (sm0) Tryz.func236 fn0 alB (.inl rfl) (fun x0 gx0 x1 gx1 x2 gx2 x3 gx3 hp U g=>ak1 ⟨x0,x1⟩ ⟨gx0,gx1⟩ ⟨x2,x3⟩ ⟨gx2,gx3⟩ U g)
def tJ (key:Nat):Sm:=⟨204,key,[.agg kPu,.agg kPu],[.agg kPu],false⟩
def sM (a:Pu) (b:Pu):List Dt:=[.z (((⟨min a.lo b.lo,max a.hi b.hi⟩:Pu)).lo),.z (((⟨min a.lo b.lo,max a.hi b.hi⟩:Pu)).hi)]
def kS:List Dt->List Dt
 | [.z x0,.z x1,.z x2,.z x3]=>sM ⟨x0,x1⟩ ⟨x2,x3⟩
 | _=>[]
def sT_ujoin:Tr:=
(.leaf (.cons (.mn (.var 0) (.var 2)) (.cons (.mx (.var 1) (.var 3)) .nil)))
def abm:Spec:={F:=fun k=>match k with | _=>fun _=>[],pre:=fun _ _=>True}
theorem alC:ap tys_XbA [] [] [] [] 200 Tryz.f204 [.agg kPu,.agg kPu] [.agg kPu] false [.int .u64,.int .u64,.int .u64,.int .u64] sT_ujoin:=⟨by kernel_rfl,by kernel_rfl,by kernel_rfl⟩
theorem ak2 (a:Pu) (ha:Pu.ok a) (b:Pu) (hb:Pu.ok b) (U:Env) (g:varsD U 0 [.int .u64,.int .u64,.int .u64,.int .u64]=[.z a.lo,.z a.hi,.z b.lo,.z b.hi]):sT_ujoin.asks abm (fun U e=>e.D U=kS [.z a.lo,.z a.hi,.z b.lo,.z b.hi]) U fun _ _=>False:=by
 simp only[varsD,varD,thm5,gS0,Nat.reduceAdd,and_true] at g
 simp only[sT_ujoin,abm,kS,sM,simQ,ai,S1,Nat.reduceSub,Nat.reduceAdd,-eq_self,Pu.eta,g]
 ·rfl
theorem al6 {sp:Spec} {key:Nat} (hF:sp.F key=kS) (hP:sp.pre key=fun _=>True:=by rfl):SmOk Tryz.prog sp (tJ key):=
 aq (s:=tJ key) hF hP mxo6 bg (sm0) Tryz.func204 fn0 alC (.inl rfl) (fun x0 gx0 x1 gx1 x2 gx2 x3 gx3 hp U g=>ak2 ⟨x0,x1⟩ ⟨gx0,gx1⟩ ⟨x2,x3⟩ ⟨gx2,gx3⟩ U g)
def nD (key:Nat):Sm:=⟨237,key,[.agg kPi,.agg kPi],[.agg kPi],false⟩
def ny (a:Pi) (b:Pi):List Dt:=[.z (((⟨max a.lo b.lo,min a.hi b.hi⟩:Pi)).lo),.z (((⟨max a.lo b.lo,min a.hi b.hi⟩:Pi)).hi)]
def gq:List Dt->List Dt
 | [.z x0,.z x1,.z x2,.z x3]=>ny ⟨x0,x1⟩ ⟨x2,x3⟩
 | _=>[]
def sT_imeet:Tr:=
(.leaf (.cons (.mx (.var 0) (.var 2)) (.cons (.mn (.var 1) (.var 3)) .nil)))
def abA:Spec:={F:=fun k=>match k with | _=>fun _=>[],pre:=fun _ _=>True}
theorem alQ:ap tys_XbA [] [] [] [] 200 Tryz.f237 [.agg kPi,.agg kPi] [.agg kPi] false [.int .i64,.int .i64,.int .i64,.int .i64] sT_imeet:=⟨by kernel_rfl,by kernel_rfl,by kernel_rfl⟩
theorem alg (a:Pi) (ha:Pi.ok a) (b:Pi) (hb:Pi.ok b) (U:Env) (g:varsD U 0 [.int .i64,.int .i64,.int .i64,.int .i64]=[.z a.lo,.z a.hi,.z b.lo,.z b.hi]):sT_imeet.asks abA (fun U e=>e.D U=gq [.z a.lo,.z a.hi,.z b.lo,.z b.hi]) U fun _ _=>False:=by
 simp only[varsD,varD,thm5,gS0,Nat.reduceAdd,and_true] at g
 simp only[sT_imeet,abA,gq,ny,simQ,ai,S1,Nat.reduceSub,Nat.reduceAdd,-eq_self,Pi.eta,g]
 ·rfl
theorem abM {sp:Spec} {key:Nat} (hF:sp.F key=gq) (hP:sp.pre key=fun _=>True:=by rfl):SmOk Tryz.prog sp (nD key):=
 aq (s:=nD key) hF hP mxo6 bg (sm0) Tryz.func237 fn0 alQ (.inl rfl) (fun x0 gx0 x1 gx1 x2 gx2 x3 gx3 hp U g=>alg ⟨x0,x1⟩ ⟨gx0,gx1⟩ ⟨x2,x3⟩ ⟨gx2,gx3⟩ U g)
def ua (key:Nat):Sm:=⟨205,key,[.agg kPi,.agg kPi],[.agg kPi],false⟩
def tf (a:Pi) (b:Pi):List Dt:=[.z (((⟨min a.lo b.lo,max a.hi b.hi⟩:Pi)).lo),.z (((⟨min a.lo b.lo,max a.hi b.hi⟩:Pi)).hi)]
def la:List Dt->List Dt
 | [.z x0,.z x1,.z x2,.z x3]=>tf ⟨x0,x1⟩ ⟨x2,x3⟩
 | _=>[]
def sT_ijoin:Tr:=
(.leaf (.cons (.mn (.var 0) (.var 2)) (.cons (.mx (.var 1) (.var 3)) .nil)))
def abB:Spec:={F:=fun k=>match k with | _=>fun _=>[],pre:=fun _ _=>True}
theorem alR:ap tys_XbA [] [] [] [] 200 Tryz.f205 [.agg kPi,.agg kPi] [.agg kPi] false [.int .i64,.int .i64,.int .i64,.int .i64] sT_ijoin:=⟨by kernel_rfl,by kernel_rfl,by kernel_rfl⟩
theorem alh (a:Pi) (ha:Pi.ok a) (b:Pi) (hb:Pi.ok b) (U:Env) (g:varsD U 0 [.int .i64,.int .i64,.int .i64,.int .i64]=[.z a.lo,.z a.hi,.z b.lo,.z b.hi]):sT_ijoin.asks abB (fun U e=>e.D U=la [.z a.lo,.z a.hi,.z b.lo,.z b.hi]) U fun _ _=>False:=by
 simp only[varsD,varD,thm5,gS0,Nat.reduceAdd,and_true] at g
 simp only[sT_ijoin,abB,la,tf,simQ,ai,S1,Nat.reduceSub,Nat.reduceAdd,-eq_self,Pi.eta,g]
 ·rfl
theorem ame {sp:Spec} {key:Nat} (hF:sp.F key=la) (hP:sp.pre key=fun _=>True:=by rfl):SmOk Tryz.prog sp (ua key):=
 aq (s:=ua key) hF hP mxo6 bg (sm0) Tryz.func205 fn0 alR (.inl rfl) (fun x0 gx0 x1 gx1 x2 gx2 x3 gx3 hp U g=>alh ⟨x0,x1⟩ ⟨gx0,gx1⟩ ⟨x2,x3⟩ ⟨gx2,gx3⟩ U g)
def wS (key:Nat):Sm:=⟨186,key,[.agg kPu,.agg kPi],[.agg kRg],false⟩
def wx (a:Pu) (b:Pi):List Dt:=[.z (((⟨a.lo,a.hi,b.lo,b.hi⟩:Rg)).ul),.z (((⟨a.lo,a.hi,b.lo,b.hi⟩:Rg)).uh),.z (((⟨a.lo,a.hi,b.lo,b.hi⟩:Rg)).sl),.z (((⟨a.lo,a.hi,b.lo,b.hi⟩:Rg)).sh)]
def jK:List Dt->List Dt
 | [.z x0,.z x1,.z x2,.z x3]=>wx ⟨x0,x1⟩ ⟨x2,x3⟩
 | _=>[]
def sT_of:Tr:=
(.leaf (.vs 0 4 .nil))
def atT:Spec:={F:=fun k=>match k with | _=>fun _=>[],pre:=fun _ _=>True}
theorem avJ:ap tys_XbA [] [] [] [] 200 Tryz.f186 [.agg kPu,.agg kPi] [.agg kRg] false [.int .u64,.int .u64,.int .i64,.int .i64] sT_of:=⟨by kernel_rfl,by kernel_rfl,by kernel_rfl⟩
theorem avE (a:Pu) (ha:Pu.ok a) (b:Pi) (hb:Pi.ok b) (U:Env) (g:varsD U 0 [.int .u64,.int .u64,.int .i64,.int .i64]=[.z a.lo,.z a.hi,.z b.lo,.z b.hi]):sT_of.asks atT (fun U e=>e.D U=jK [.z a.lo,.z a.hi,.z b.lo,.z b.hi]) U fun _ _=>False:=by
 simp only[varsD,varD,thm5,gS0,Nat.reduceAdd,and_true] at g
 simp only[sT_of,atT,jK,wx,simQ,ai,S1,Nat.reduceSub,Nat.reduceAdd,-eq_self,Pi.eta,Pu.eta,g]
 ·rfl
theorem adj {sp:Spec} {key:Nat} (hF:sp.F key=jK) (hP:sp.pre key=fun _=>True:=by rfl):SmOk Tryz.prog sp (wS key):=
 aq (s:=wS key) hF hP mxo6 bg (sm0) Tryz.func186 fn0 avJ (.inl rfl) (fun x0 gx0 x1 gx1 x2 gx2 x3 gx3 hp U g=>avE ⟨x0,x1⟩ ⟨gx0,gx1⟩ ⟨x2,x3⟩ ⟨gx2,gx3⟩ U g)
def hZ (key:Nat):Sm:=⟨172,key,[.agg kRg],[.one .bool],false⟩
def gY (a:Rg):List Dt:=[.z (b2i (bmay a))]
def cE:List Dt->List Dt
 | [.z x0,.z x1,.z x2,.z x3]=>gY ⟨x0,x1,x2,x3⟩
 | _=>[]
def sT_may:Tr:=
(.call 0 (kPu) (.vs 0 4 .nil) 4
(.call 2 [.bool] (.vs 4 2 .nil) 6
(.br (.bw 6)
(.call 1 (kPi) (.vs 0 4 .nil) 7
(.call 3 [.bool] (.vs 7 2 .nil) 9
(.leaf (.cb (.bw 9) .nil))))
(.leaf (.cb (.tt false) .nil)))))
def anO:Spec:={F:=fun k=>match k with | 0=>ew | 1=>ez | 2=>pf | 3=>pt | _=>fun _=>[],pre:=fun _ _=>True}
theorem atG:ap tys_XbA [mQ 0,mR 1,zq 2,zC 3] [] [] [] 200 Tryz.f172 [.agg kRg] [.one .bool] false [.int .u64,.int .u64,.int .i64,.int .i64] sT_may:=⟨by kernel_rfl,by kernel_rfl,by kernel_rfl⟩
def aa:=And.intro Pi.eta (And.intro Pu.eta (Rg.eta))
theorem ath (a:Rg) (ha:Rg.ok a) (U:Env) (g:varsD U 0 [.int .u64,.int .u64,.int .i64,.int .i64]=[.z a.ul,.z a.uh,.z a.sl,.z a.sh]):sT_may.asks anO (fun U e=>e.D U=cE [.z a.ul,.z a.uh,.z a.sl,.z a.sh]) U fun _ _=>False:=by
 simp only[varsD,varD,thm5,gS0,Nat.reduceAdd,and_true] at g
 simp only[sT_may,anO,kPi,kPu,ew,ez,pf,pt,mO,mP,yX,zh,cE,gY,simQ,ai,S1,Nat.reduceSub,Nat.reduceAdd,-eq_self,aa,g]
 intro e;(try simp only[e,aa,-eq_self]);clear e
 intro e;(try simp only[e,aa,-eq_self]);clear e
 constructor<;>intro c0
 intro e;(try simp only[e,aa,-eq_self]);clear e
 intro e;(try simp only[e,aa,-eq_self]);clear e
 ·(unfold bmay;simp_all;try (intros;omega))
 ·(unfold bmay;simp_all;try (intros;omega))
theorem kI {sp:Spec} {key:Nat} (hF:sp.F key=cE) (hP:sp.pre key=fun _=>True:=by rfl):SmOk Tryz.prog sp (hZ key):=
 aq (s:=hZ key) hF hP mxo6 bg (smc (qQ rfl) (smc (qR rfl) (smc (arp rfl) (smc (ary rfl) sm0)))) Tryz.func172 fn0 atG (.inl rfl) (fun x0 gx0 x1 gx1 x2 gx2 x3 gx3 hp U g=>ath ⟨x0,x1,x2,x3⟩ ⟨gx0,gx1,gx2,gx3⟩ U g)
def eu (key:Nat):Sm:=⟨156,key,[],[.agg kRg],false⟩
def bF:List Dt->List Dt
 | []=>[.z ball.ul,.z ball.uh,.z ball.sl,.z ball.sh]
 | _=>[]
def sT_all:Tr:=
(.call 0 (kRg) (.zs [0,18446744073709551615,-9223372036854775808,9223372036854775807] .nil) 0
(.leaf (.vs 0 4 .nil)))
def anY:Spec:={F:=fun k=>match k with | 0=>jK | _=>fun _=>[],pre:=fun _ _=>True}
theorem atQ:ap tys_XbA [wS 0] [] [] [] 200 Tryz.f156 [] [.agg kRg] false [] sT_all:=⟨by kernel_rfl,by kernel_rfl,by kernel_rfl⟩
theorem ats (U:Env) (g:varsD U 0 []=[]):sT_all.asks anY (fun U e=>e.D U=bF []) U fun _ _=>False:=by
 simp only[sT_all,anY,kRg,jK,wx,bF,simQ,ai,S1,Nat.reduceSub,Nat.reduceAdd,-eq_self,aa]
 intro e;(try simp only[e,aa,-eq_self]);clear e
 ·rfl
theorem fK {sp:Spec} {key:Nat} (hF:sp.F key=bF) (hP:sp.pre key=fun _=>True:=by rfl):SmOk Tryz.prog sp (eu key):=
 aq (s:=eu key) hF hP mxo6 bg (smc (adj rfl) sm0) Tryz.func156 fn0 atQ (.inl rfl) (fun hp U g=>ats U g)
def ahw (key:Nat):Sm:=⟨140,key,[.one (.int .u64)],[.agg kRg],false⟩
def agq (v:Int):List Dt:=[.z ((bone v).ul),.z ((bone v).uh),.z ((bone v).sl),.z ((bone v).sh)]
def xg:List Dt->List Dt
 | [.z x0]=>agq x0
 | _=>[]
def sT_one:Tr:=
(.call 0 (kRg) (.cons (.var 0) (.cons (.var 0) (.cons (.conv .i64 (.var 0)) (.cons (.conv .i64 (.var 0)) .nil)))) 1
(.leaf (.vs 1 4 .nil)))
def anM:Spec:={F:=fun k=>match k with | 0=>jK | _=>fun _=>[],pre:=fun _ _=>True}
theorem atE:ap tys_XbA [wS 0] [] [] [] 200 Tryz.f140 [.one (.int .u64)] [.agg kRg] false [.int .u64] sT_one:=⟨by kernel_rfl,by kernel_rfl,by kernel_rfl⟩
theorem atf (v:Int) (hv:inK .u64 v=true) (U:Env) (g:varsD U 0 [.int .u64]=[.z v]):sT_one.asks anM (fun U e=>e.D U=xg [.z v]) U fun _ _=>False:=by
 simp only[varsD,varD,thm5,gS0,Nat.reduceAdd,and_true] at g
 simp only[sT_one,anM,kRg,jK,wx,xg,agq,simQ,ai,S1,Nat.reduceSub,Nat.reduceAdd,-eq_self,aa,g]
 intro e;(try simp only[e,aa,-eq_self]);clear e
 ·simp[bone,bZ]
theorem at5 {sp:Spec} {key:Nat} (hF:sp.F key=xg) (hP:sp.pre key=fun _=>True:=by rfl):SmOk Tryz.prog sp (ahw key):=
 aq (s:=ahw key) hF hP mxo6 bg (smc (adj rfl) sm0) Tryz.func140 fn0 atE (.inl rfl) (fun x0 gx0 hp U g=>atf x0 gx0 U g)
def ahC (key:Nat):Sm:=⟨109,key,[.agg kRg,.one (.int .u64)],[.one .bool],false⟩
def agw (a:Rg) (v:Int):List Dt:=[.z (b2i (bhas a v))]
def xo:List Dt->List Dt
 | [.z x0,.z x1,.z x2,.z x3,.z x4]=>agw ⟨x0,x1,x2,x3⟩ x4
 | _=>[]
def sT_has:Tr:=
(.call 0 [.bool] (.vs 0 4 .nil) 5
(.br (.bw 5)
(.call 1 (kPu) (.vs 0 4 .nil) 6
(.call 3 [.bool] (.vs 6 2 (.cons (.var 4) .nil)) 8
(.br (.bw 8)
(.call 2 (kPi) (.vs 0 4 .nil) 9
(.call 4 [.bool] (.vs 9 2 (.cons (.conv .i64 (.var 4)) .nil)) 11
(.leaf (.cb (.bw 11) .nil))))
(.leaf (.cb (.tt false) .nil)))))
(.leaf (.cb (.tt false) .nil))))
def anX:Spec:={F:=fun k=>match k with | 0=>cE | 1=>ew | 2=>ez | 3=>pg | 4=>pu | _=>fun _=>[],pre:=fun _ _=>True}
theorem atP:ap tys_XbA [hZ 0,mQ 1,mR 2,zt 3,zD 4] [] [] [] 200 Tryz.f109 [.agg kRg,.one (.int .u64)] [.one .bool] false [.int .u64,.int .u64,.int .i64,.int .i64,.int .u64] sT_has:=⟨by kernel_rfl,by kernel_rfl,by kernel_rfl⟩
theorem atr (a:Rg) (ha:Rg.ok a) (v:Int) (hv:inK .u64 v=true) (U:Env) (g:varsD U 0 [.int .u64,.int .u64,.int .i64,.int .i64,.int .u64]=[.z a.ul,.z a.uh,.z a.sl,.z a.sh,.z v]):sT_has.asks anX (fun U e=>e.D U=xo [.z a.ul,.z a.uh,.z a.sl,.z a.sh,.z v]) U fun _ _=>False:=by
 simp only[varsD,varD,thm5,gS0,Nat.reduceAdd,and_true] at g
 simp only[sT_has,anX,kPi,kPu,cE,ew,ez,pg,pu,gY,mO,mP,yY,zi,xo,agw,simQ,ai,S1,Nat.reduceSub,Nat.reduceAdd,-eq_self,aa,g]
 intro e;(try simp only[e,aa,-eq_self]);clear e
 constructor<;>intro c0
 intro e;(try simp only[e,aa,-eq_self]);clear e
 intro e;(try simp only[e,aa,-eq_self]);clear e
 constructor<;>intro c1
 intro e;(try simp only[e,aa,-eq_self]);clear e
 intro e;(try simp only[e,aa,-eq_self]);clear e
 ·(unfold bhas;simp_all [bZ];try (intros;omega))
 ·(unfold bhas;simp_all [bZ];try (intros;omega))
 ·(unfold bhas;simp_all [bZ];try (intros;omega))
theorem aud {sp:Spec} {key:Nat} (hF:sp.F key=xo) (hP:sp.pre key=fun _=>True:=by rfl):SmOk Tryz.prog sp (ahC key):=
 aq (s:=ahC key) hF hP mxo6 bg (smc (kI rfl) (smc (qQ rfl) (smc (qR rfl) (smc (arq rfl) (smc (arz rfl) sm0))))) Tryz.func109 fn0 atP (.inl rfl) (fun x0 gx0 x1 gx1 x2 gx2 x3 gx3 x4 gx4 hp U g=>atr ⟨x0,x1,x2,x3⟩ ⟨gx0,gx1,gx2,gx3⟩ x4 gx4 U g)
def hJ (key:Nat):Sm:=⟨194,key,[.agg kRg],[.one (.int .u64),.one .bool],true⟩
def gX (a:Rg):List Dt:=[.z (aC a),.z (b2i (eN a))]
def dd:List Dt->List Dt
 | [.z x0,.z x1,.z x2,.z x3]=>gX ⟨x0,x1,x2,x3⟩
 | _=>[]
def sT_single:Tr:=
(.br (.eq (.var 0) (.var 1))
(.call 0 [.bool] (.vs 0 4 (.cons (.var 0) .nil)) 4
(.br (.bw 4)
(.leaf (.cons (.var 0) (.cb (.tt true) .nil)))
(.leaf (.cons (.lit 0) (.cb (.tt false) .nil)))))
(.leaf (.cons (.lit 0) (.cb (.tt false) .nil))))
def wN:Spec:={F:=fun k=>match k with | 0=>xo | _=>fun _=>[],pre:=fun _ _=>True}
theorem agG:ap tys_XbA [ahC 0] [] [] [] 200 Tryz.f194 [.agg kRg] [.one (.int .u64),.one .bool] true [.int .u64,.int .u64,.int .i64,.int .i64] sT_single:=⟨by kernel_rfl,by kernel_rfl,by kernel_rfl⟩
theorem af9 (a:Rg) (ha:Rg.ok a) (U:Env) (g:varsD U 0 [.int .u64,.int .u64,.int .i64,.int .i64]=[.z a.ul,.z a.uh,.z a.sl,.z a.sh]):sT_single.asks wN (fun U e=>e.D U=dd [.z a.ul,.z a.uh,.z a.sl,.z a.sh]) U fun _ _=>False:=by
 simp only[varsD,varD,thm5,gS0,Nat.reduceAdd,and_true] at g
 simp only[sT_single,wN,xo,agw,dd,gX,simQ,ai,S1,Nat.reduceSub,Nat.reduceAdd,-eq_self,aa,g]
 constructor<;>intro c0
 intro e;(try simp only[e,aa,-eq_self]);clear e
 constructor<;>intro c1
 ·(unfold aC eN;simp_all)
 ·(unfold aC eN;simp_all)
 ·(unfold aC eN;simp_all)
theorem oV {sp:Spec} {key:Nat} (hF:sp.F key=dd) (hP:sp.pre key=fun _=>True:=by rfl):SmOk Tryz.prog sp (hJ key):=
 aq (s:=hJ key) hF hP mxo6 bg (smc (aud rfl) sm0) Tryz.func194 fn0 agG (.inl rfl) (fun x0 gx0 x1 gx1 x2 gx2 x3 gx3 hp U g=>af9 ⟨x0,x1,x2,x3⟩ ⟨gx0,gx1,gx2,gx3⟩ U g)
def tZ (key:Nat):Sm:=⟨153,key,[.agg kRg,.agg kRg],[.agg kRg],false⟩
def te (a:Rg) (b:Rg):List Dt:=[.z ((fC a b).ul),.z ((fC a b).uh),.z ((fC a b).sl),.z ((fC a b).sh)]
def jQ:List Dt->List Dt
 | [.z x0,.z x1,.z x2,.z x3,.z x4,.z x5,.z x6,.z x7]=>te ⟨x0,x1,x2,x3⟩ ⟨x4,x5,x6,x7⟩
 | _=>[]
def sT_join:Tr:=
(.call 0 [.bool] (.vs 0 4 .nil) 8
(.br (.bw 8)
(.call 0 [.bool] (.vs 4 4 .nil) 9
(.br (.bw 9)
(.call 2 (kPu) (.vs 0 4 .nil) 10
(.call 2 (kPu) (.vs 4 4 .nil) 12
(.call 4 (kPu) (.vs 10 4 .nil) 14
(.call 3 (kPi) (.vs 0 4 .nil) 16
(.call 3 (kPi) (.vs 4 4 .nil) 18
(.call 5 (kPi) (.vs 16 4 .nil) 20
(.call 6 (kRg) (.vs 14 2 (.vs 20 2 .nil)) 22
(.leaf (.vs 22 4 .nil)))))))))
(.call 1 (kRg) .nil 10
(.leaf (.vs 10 4 .nil)))))
(.call 1 (kRg) .nil 9
(.leaf (.vs 9 4 .nil)))))
def ahl:Spec:={F:=fun k=>match k with | 0=>cE | 1=>bF | 2=>ew | 3=>ez | 4=>kS | 5=>la | 6=>jK | _=>fun _=>[],pre:=fun _ _=>True}
theorem arb:ap tys_XbA [hZ 0,eu 1,mQ 2,mR 3,tJ 4,ua 5,wS 6] [] [] [] 200 Tryz.f153 [.agg kRg,.agg kRg] [.agg kRg] false [.int .u64,.int .u64,.int .i64,.int .i64,.int .u64,.int .u64,.int .i64,.int .i64] sT_join:=⟨by kernel_rfl,by kernel_rfl,by kernel_rfl⟩
theorem aqt (a:Rg) (ha:Rg.ok a) (b:Rg) (hb:Rg.ok b) (U:Env) (g:varsD U 0 [.int .u64,.int .u64,.int .i64,.int .i64,.int .u64,.int .u64,.int .i64,.int .i64]=[.z a.ul,.z a.uh,.z a.sl,.z a.sh,.z b.ul,.z b.uh,.z b.sl,.z b.sh]):sT_join.asks ahl (fun U e=>e.D U=jQ [.z a.ul,.z a.uh,.z a.sl,.z a.sh,.z b.ul,.z b.uh,.z b.sl,.z b.sh]) U fun _ _=>False:=by
 simp only[varsD,varD,thm5,gS0,Nat.reduceAdd,and_true] at g
 simp only[sT_join,ahl,kPi,kPu,kRg,cE,bF,ew,ez,kS,la,jK,gY,mO,mP,sM,tf,wx,jQ,te,simQ,ai,S1,Nat.reduceSub,Nat.reduceAdd,-eq_self,aa,g]
 intro e;(try simp only[e,aa,-eq_self]);clear e
 constructor<;>intro c0
 intro e;(try simp only[e,aa,-eq_self]);clear e
 constructor<;>intro c1
 intro e;(try simp only[e,aa,-eq_self]);clear e
 intro e;(try simp only[e,aa,-eq_self]);clear e
 intro e;(try simp only[e,aa,-eq_self]);clear e
 intro e;(try simp only[e,aa,-eq_self]);clear e
 intro e;(try simp only[e,aa,-eq_self]);clear e
 intro e;(try simp only[e,aa,-eq_self]);clear e
 intro e;(try simp only[e,aa,-eq_self]);clear e
 ·(unfold fC;simp_all [lO])
 intro e;(try simp only[e,aa,-eq_self]);clear e
 ·(unfold fC;simp_all [lO])
 intro e;(try simp only[e,aa,-eq_self]);clear e
 ·(unfold fC;simp_all [lO])
theorem ahZ {sp:Spec} {key:Nat} (hF:sp.F key=jQ) (hP:sp.pre key=fun _=>True:=by rfl):SmOk Tryz.prog sp (tZ key):=
 aq (s:=tZ key) hF hP mxo6 bg (smc (kI rfl) (smc (fK rfl) (smc (qQ rfl) (smc (qR rfl) (smc (al6 rfl) (smc (ame rfl) (smc (adj rfl) sm0))))))) Tryz.func153 fn0 arb (.inl rfl) (fun x0 gx0 x1 gx1 x2 gx2 x3 gx3 x4 gx4 x5 gx5 x6 gx6 x7 gx7 hp U g=>aqt ⟨x0,x1,x2,x3⟩ ⟨gx0,gx1,gx2,gx3⟩ ⟨x4,x5,x6,x7⟩ ⟨gx4,gx5,gx6,gx7⟩ U g)
theorem aaz (r:Rg):(if bnok r=true then bnar r else ball)=bnar r:=by
 unfold bnar
 split<;>simp_all
theorem Rg.ext_iff {a b:Rg}:a=b↔a.ul=b.ul/\a.uh=b.uh/\a.sl=b.sl/\a.sh=b.sh:=by
 cases a;cases b;simp
theorem cR {x:Int} (h:inK .u64 x=true):0<=x/\x<=18446744073709551615:=by
 rw[bz] at h;simpa[IntKind.min,IntKind.max,IntKind.signed,IntKind.bits] using h
theorem gC {x:Int} (h:inK .i64 x=true) : -9223372036854775808<=x/\x<=9223372036854775807:=by
 rw[bz] at h;simpa[IntKind.min,IntKind.max,IntKind.signed,IntKind.bits] using h
theorem Rg.wf_of {a:Rg} (h:a.ok):a.wf:=⟨cR h.1,cR h.2.1,gC h.2.2.1,gC h.2.2.2⟩
theorem as2 {x:Int} (h:0<=x/\x<=18446744073709551615):opI .shr .u64 x 63=if hib x=true then 1 else 0:=by
 show x.fdiv (2 ^ 63)=_
 rw[Int.fdiv_eq_ediv_of_nonneg _ (by omega)]
 unfold hib
 split
 ·rename_i hh;have:=thm3 hh;omega
 ·rename_i hh;have:¬9223372036854775808<=x:=fun e=>hh (dU e);omega
theorem auL {r:Rg} (w:r.wf):(opI .shr .u64 r.ul 63==opI .shr .u64 r.uh 63)=decide (hib r.ul=hib r.uh):=by
 rw[as2 w.1,as2 w.2.1]
 cases hib r.ul<;>cases hib r.uh<;>rfl
theorem jk {r:Rg} (w:r.wf) (h:(opI .shr .u64 r.ul 63==opI .shr .u64 r.uh 63)=true):bsgn r=⟨r.ul,r.uh,max r.sl (IntKind.i64.wrap r.ul),min r.sh (IntKind.i64.wrap r.uh)⟩:=by
 rw[auL w,aZ] at h
 unfold bsgn
 rw[if_pos h,bZ,bZ]
theorem oe {r:Rg} (w:r.wf) (h:(opI .shr .u64 r.ul 63==opI .shr .u64 r.uh 63)=false):bsgn r=⟨r.ul,r.uh,r.sl,r.sh⟩:=by
 rw[auL w,decide_eq_false_iff_not] at h
 unfold bsgn
 rw[if_neg h]
theorem vj {r:Rg} (h:(decide (r.sl<0)==decide (r.sh<0))=true):buns r=⟨max r.ul (IntKind.u64.wrap r.sl),min r.uh (IntKind.u64.wrap r.sh),r.sl,r.sh⟩:=by
 unfold buns
 rw[if_pos (eq_of_beq h)]
theorem acZ {r:Rg} (h:(decide (r.sl<0)==decide (r.sh<0))=false):buns r=⟨r.ul,r.uh,r.sl,r.sh⟩:=by
 unfold buns
 rw[if_neg (fun e=>by rw[e] at h;simp at h)]
def z_Rg:List C:=[.int .u64 (.lit 0),.int .u64 (.lit 0),.int .i64 (.lit 0),.int .i64 (.lit 0)]
theorem auW:Tryz.prog.eqGuardType Tryz.prog.depth 44=false:=by kernel_rfl
theorem adY:Tryz.prog.cellsOf 44=4:=by kernel_rfl
theorem ad1:Tryz.prog.cellsOf 42=1:=by kernel_rfl
theorem ajB:Tryz.prog.cellsOf 2=1:=by kernel_rfl
theorem avR (vs:List Value) (hv:aF vs z_Rg):Tryz.prog.keyLits 6 44 vs=some (bJ vs):=by
 obtain⟨x0,_,rfl,g0,hv⟩:=ak hv
 obtain⟨x1,_,rfl,g1,hv⟩:=ak hv
 obtain⟨x2,_,rfl,g2,hv⟩:=ak hv
 obtain⟨x3,_,rfl,g3,hv⟩:=ak hv
 obtain rfl:=aU hv
 simp[Program.keyLits,Tryz.underlying44,Tryz.underlying42,Tryz.underlying2,adY,ad1,ajB,xV,bJ,g0,g1,g2,g3]
theorem awq (vs:List Value) (hv:aF vs z_Rg):(Value.agg vs.toArray).formed Tryz.prog 44=true:=by
 obtain⟨x0,_,rfl,g0,hv⟩:=ak hv
 obtain⟨x1,_,rfl,g1,hv⟩:=ak hv
 obtain⟨x2,_,rfl,g2,hv⟩:=ak hv
 obtain⟨x3,_,rfl,g3,hv⟩:=ak hv
 obtain rfl:=aU hv
 kernel_rfl
theorem awu (vs us:List Value) (hv:aF vs z_Rg) (hu:aF us z_Rg) (w:World):(Op.equal 44 (.agg vs.toArray) (.agg us.toArray)).run Tryz.prog w=.ok (eqVs vs us) w:=
 eh (by kernel_rfl) awq 6 avR vs us hv hu w
def tys_XbB:List (Nat×TI):=[(2,tiq2),
 (3,tiq3),
 (4,tiq4),
 (42,fF),
 (44,⟨true,4,(zN 4 2211),[(0,42),(1,42),(2,2),(3,2)],none,none,true,false,none,32,false,none,false,0⟩),
 (209,afw),
 (213,afv)]
theorem ae6:(tys_XbB.all fun p=>ckTI Tryz.prog p.1 p.2)=true:=by kernel_rfl
theorem vu:(tys_XbB.all fun p=>!p.2.eqok||((Nat.beq p.1 44&&aN p.2.zero z_Rg)))=true:=by kernel_rfl
theorem aeK:(tys_XbB.all fun p=>!p.2.keyok)=true:=by kernel_rfl
theorem en:∀t i,(t,i)∈tys_XbB->TIok Tryz.prog t i:=by
 intro t i h
 refine bB (cz (f:=ckTI Tryz.prog) ae6 h) (fun he=> ?_) (fun he=> ?_) (fun he=> ?_)
 ·have h1:=thm7.1 vu (t,i) h
  simp only[he,Bool.not_true,Bool.false_or,bH,thm0] at h1
  have hs:=h1.2
  obtain rfl:=thm1 h1.1
  exact fun vs us hv hu=>awu vs us (an hs hv) (an hs hu)
 ·have h1:=thm7.1 vu (t,i) h
  simp only[he,Bool.not_true,Bool.false_or,bH,thm0] at h1
  have hs:=h1.2
  obtain rfl:=thm1 h1.1
  exact auW
 ·have h1:=thm7.1 aeK (t,i) h
  simp[he] at h1
def wT (key:Nat):Sm:=⟨201,key,[.agg kRg],[.agg kRg,.one .bool],true⟩
def wy (a:Rg):List Dt:=[.z ((bnar a).ul),.z ((bnar a).uh),.z ((bnar a).sl),.z ((bnar a).sh),.z (b2i (bnok a))]
def kW:List Dt->List Dt
 | [.z x0,.z x1,.z x2,.z x3]=>wy ⟨x0,x1,x2,x3⟩
 | _=>[]
def zsh2:Tr:=(.call 0 [.bool] (.vs 29 4 .nil) 33
(.br (.bw 33)
(.call 2 (kPu) (.vs 29 4 .nil) 34
(.call 3 (kPi) (.vs 29 4 .nil) 36
(.leaf (.vs 29 4 (.cb (.tt true) .nil)))))
(.call 1 (kRg) .nil 34
(.leaf (.vs 34 4 (.cb (.tt false) .nil))))))
def zsh1:Tr:=(.call 0 [.bool] (.vs 31 4 .nil) 35
(.br (.bw 35)
(.call 2 (kPu) (.vs 31 4 .nil) 36
(.call 3 (kPi) (.vs 31 4 .nil) 38
(.leaf (.vs 31 4 (.cb (.tt true) .nil)))))
(.call 1 (kRg) .nil 36
(.leaf (.vs 36 4 (.cb (.tt false) .nil))))))
def zsh0:Tr:=(.call 0 [.bool] (.vs 20 4 .nil) 24
(.br (.bw 24)
(.call 2 (kPu) (.vs 20 4 .nil) 25
(.call 3 (kPi) (.vs 20 4 .nil) 27
(.br (.eq (.bin .shr .u64 (.var 25) (.lit 63)) (.bin .shr .u64 (.var 26) (.lit 63)))
(.call 5 (kPi) (.vs 27 2 (.cons (.conv .i64 (.var 25)) (.cons (.conv .i64 (.var 26)) .nil))) 29
(.call 6 (kRg) (.vs 25 2 (.vs 29 2 .nil)) 31
 zsh1))
(.call 6 (kRg) (.vs 25 4 .nil) 29
 zsh2))))
(.call 1 (kRg) .nil 25
(.leaf (.vs 25 4 (.cb (.tt false) .nil))))))
def sT_nar:Tr:=
(.call 0 [.bool] (.vs 0 4 .nil) 4
(.br (.bw 4)
(.call 2 (kPu) (.vs 0 4 .nil) 5
(.call 3 (kPi) (.vs 0 4 .nil) 7
(.br (.eq (.bin .shr .u64 (.var 5) (.lit 63)) (.bin .shr .u64 (.var 6) (.lit 63)))
(.call 5 (kPi) (.vs 7 2 (.cons (.conv .i64 (.var 5)) (.cons (.conv .i64 (.var 6)) .nil))) 9
(.call 6 (kRg) (.vs 5 2 (.vs 9 2 .nil)) 11
(.call 0 [.bool] (.vs 11 4 .nil) 15
(.br (.bw 15)
(.call 2 (kPu) (.vs 11 4 .nil) 16
(.call 3 (kPi) (.vs 11 4 .nil) 18
(.br (.beq (.lt (.var 18) (.lit 0)) (.lt (.var 19) (.lit 0)))
(.call 4 (kPu) (.vs 16 2 (.cons (.conv .u64 (.var 18)) (.cons (.conv .u64 (.var 19)) .nil))) 20
(.call 6 (kRg) (.vs 20 2 (.vs 18 2 .nil)) 22
(.call 0 [.bool] (.vs 22 4 .nil) 26
(.br (.bw 26)
(.call 2 (kPu) (.vs 22 4 .nil) 27
(.call 3 (kPi) (.vs 22 4 .nil) 29
(.br (.eq (.bin .shr .u64 (.var 27) (.lit 63)) (.bin .shr .u64 (.var 28) (.lit 63)))
(.call 5 (kPi) (.vs 29 2 (.cons (.conv .i64 (.var 27)) (.cons (.conv .i64 (.var 28)) .nil))) 31
(.call 6 (kRg) (.vs 27 2 (.vs 31 2 .nil)) 33
(.call 0 [.bool] (.vs 33 4 .nil) 37
(.br (.bw 37)
(.call 2 (kPu) (.vs 33 4 .nil) 38
(.call 3 (kPi) (.vs 33 4 .nil) 40
(.leaf (.vs 33 4 (.cb (.tt true) .nil)))))
(.call 1 (kRg) .nil 38
(.leaf (.vs 38 4 (.cb (.tt false) .nil))))))))
(.call 6 (kRg) (.vs 27 4 .nil) 31
 zsh1))))
(.call 1 (kRg) .nil 27
(.leaf (.vs 27 4 (.cb (.tt false) .nil))))))))
(.call 6 (kRg) (.vs 16 4 .nil) 20
 zsh0))))
(.call 1 (kRg) .nil 16
(.leaf (.vs 16 4 (.cb (.tt false) .nil))))))))
(.call 6 (kRg) (.vs 5 4 .nil) 9
(.call 0 [.bool] (.vs 9 4 .nil) 13
(.br (.bw 13)
(.call 2 (kPu) (.vs 9 4 .nil) 14
(.call 3 (kPi) (.vs 9 4 .nil) 16
(.br (.beq (.lt (.var 16) (.lit 0)) (.lt (.var 17) (.lit 0)))
(.call 4 (kPu) (.vs 14 2 (.cons (.conv .u64 (.var 16)) (.cons (.conv .u64 (.var 17)) .nil))) 18
(.call 6 (kRg) (.vs 18 2 (.vs 16 2 .nil)) 20
 zsh0))
(.call 6 (kRg) (.vs 14 4 .nil) 18
(.call 0 [.bool] (.vs 18 4 .nil) 22
(.br (.bw 22)
(.call 2 (kPu) (.vs 18 4 .nil) 23
(.call 3 (kPi) (.vs 18 4 .nil) 25
(.br (.eq (.bin .shr .u64 (.var 23) (.lit 63)) (.bin .shr .u64 (.var 24) (.lit 63)))
(.call 5 (kPi) (.vs 25 2 (.cons (.conv .i64 (.var 23)) (.cons (.conv .i64 (.var 24)) .nil))) 27
(.call 6 (kRg) (.vs 23 2 (.vs 27 2 .nil)) 29
 zsh2))
(.call 6 (kRg) (.vs 23 4 .nil) 27
(.call 0 [.bool] (.vs 27 4 .nil) 31
(.br (.bw 31)
(.call 2 (kPu) (.vs 27 4 .nil) 32
(.call 3 (kPi) (.vs 27 4 .nil) 34
(.leaf (.vs 27 4 (.cb (.tt true) .nil)))))
(.call 1 (kRg) .nil 32
(.leaf (.vs 32 4 (.cb (.tt false) .nil))))))))))
(.call 1 (kRg) .nil 23
(.leaf (.vs 23 4 (.cb (.tt false) .nil))))))))))
(.call 1 (kRg) .nil 14
(.leaf (.vs 14 4 (.cb (.tt false) .nil))))))))))
(.call 1 (kRg) .nil 5
(.leaf (.vs 5 4 (.cb (.tt false) .nil))))))
def anN:Spec:={F:=fun k=>match k with | 0=>cE | 1=>bF | 2=>ew | 3=>ez | 4=>gj | 5=>gq | 6=>jK | _=>fun _=>[],pre:=fun _ _=>True}
theorem atF:ap tys_XbB [hZ 0,eu 1,mQ 2,mR 3,nA 4,nD 5,wS 6] [] [] [] 200 Tryz.f201 [.agg kRg] [.agg kRg,.one .bool] true [.int .u64,.int .u64,.int .i64,.int .i64] sT_nar:=⟨by kernel_rfl,by kernel_rfl,by kernel_rfl⟩
theorem atg (a:Rg) (ha:Rg.ok a) (U:Env) (g:varsD U 0 [.int .u64,.int .u64,.int .i64,.int .i64]=[.z a.ul,.z a.uh,.z a.sl,.z a.sh]):sT_nar.asks anN (fun U e=>e.D U=kW [.z a.ul,.z a.uh,.z a.sl,.z a.sh]) U fun _ _=>False:=by
 simp only[varsD,varD,thm5,gS0,Nat.reduceAdd,and_true] at g
 simp only[sT_nar,zsh0,zsh1,zsh2,anN,kPi,kPu,kRg,cE,bF,ew,ez,gj,gq,jK,gY,mO,mP,nu,ny,wx,kW,wy,simQ,ai,S1,Nat.reduceSub,Nat.reduceAdd,-eq_self,aa,g]
 have wfg:=Rg.wf_of ha
 intro e;(try simp only[e,aa,-eq_self]);clear e
 constructor<;>intro c0
 intro e;(try simp only[e,aa,-eq_self]);clear e
 intro e;(try simp only[e,aa,-eq_self]);clear e
 constructor<;>intro c1
 intro e;(try simp only[e,aa,-eq_self]);clear e
 intro e;(try simp only[e,aa,-eq_self]);clear e
 intro e;(try simp only[e,aa,-eq_self]);clear e
 constructor<;>intro c2
 intro e;(try simp only[e,aa,-eq_self]);clear e
 intro e;(try simp only[e,aa,-eq_self]);clear e
 constructor<;>intro c3
 intro e;(try simp only[e,aa,-eq_self]);clear e
 intro e;(try simp only[e,aa,-eq_self]);clear e
 intro e;(try simp only[e,aa,-eq_self]);clear e
 constructor<;>intro c4
 intro e;(try simp only[e,aa,-eq_self]);clear e
 intro e;(try simp only[e,aa,-eq_self]);clear e
 constructor<;>intro c5
 intro e;(try simp only[e,aa,-eq_self]);clear e
 intro e;(try simp only[e,aa,-eq_self]);clear e
 intro e;(try simp only[e,aa,-eq_self]);clear e
 constructor<;>intro c6
 intro e;(try simp only[e,aa,-eq_self]);clear e
 intro e;(try simp only[e,aa,-eq_self]);clear e
 ·(have s1:=jk (wfg) (by exact c1);have s2:=vj (r:=bsgn a) (by rw[s1];exact c3);have s3:=jk (cJ (bX wfg)) (by rw[s2,s1];exact c5);have hok:bnok a=true:=(by unfold bnok;(try rw[s3,s2,s1]);(try rw[c0]);(try rw[c2]);(try rw[c4]);(try rw[c6]);(try rfl));have hnar:bnar a=bsgn (buns (bsgn a)):=(by unfold bnar;rw[hok];rfl);rw[hok,hnar];rw[s3,s2,s1];(try rfl))
 intro e;(try simp only[e,aa,-eq_self]);clear e
 ·(have s1:=jk (wfg) (by exact c1);have s2:=vj (r:=bsgn a) (by rw[s1];exact c3);have s3:=jk (cJ (bX wfg)) (by rw[s2,s1];exact c5);have hok:bnok a=false:=(by unfold bnok;(try rw[s3,s2,s1]);(try rw[c0]);(try rw[c2]);(try rw[c4]);(try rw[c6]);(try rfl));have hnar:bnar a=ball:=(by unfold bnar;rw[hok];rfl);rw[hok,hnar];(try rfl))
 intro e;(try simp only[e,aa,-eq_self]);clear e
 intro e;(try simp only[e,aa,-eq_self]);clear e
 constructor<;>intro c7
 intro e;(try simp only[e,aa,-eq_self]);clear e
 intro e;(try simp only[e,aa,-eq_self]);clear e
 ·(have s1:=jk (wfg) (by exact c1);have s2:=vj (r:=bsgn a) (by rw[s1];exact c3);have s3:=oe (cJ (bX wfg)) (by rw[s2,s1];exact c5);have hok:bnok a=true:=(by unfold bnok;(try rw[s3,s2,s1]);(try rw[c0]);(try rw[c2]);(try rw[c4]);(try rw[c7]);(try rfl));have hnar:bnar a=bsgn (buns (bsgn a)):=(by unfold bnar;rw[hok];rfl);rw[hok,hnar];rw[s3,s2,s1];(try rfl))
 intro e;(try simp only[e,aa,-eq_self]);clear e
 ·exact absurd (c4.symm.trans c7) (by simp)
 intro e;(try simp only[e,aa,-eq_self]);clear e
 ·(have s1:=jk (wfg) (by exact c1);have s2:=vj (r:=bsgn a) (by rw[s1];exact c3);have hok:bnok a=false:=(by unfold bnok;(try rw[s2,s1]);(try rw[c0]);(try rw[c2]);(try rw[c4]);(try rfl));have hnar:bnar a=ball:=(by unfold bnar;rw[hok];rfl);rw[hok,hnar];(try rfl))
 intro e;(try simp only[e,aa,-eq_self]);clear e
 intro e;(try simp only[e,aa,-eq_self]);clear e
 constructor<;>intro c8
 intro e;(try simp only[e,aa,-eq_self]);clear e
 intro e;(try simp only[e,aa,-eq_self]);clear e
 constructor<;>intro c9
 intro e;(try simp only[e,aa,-eq_self]);clear e
 intro e;(try simp only[e,aa,-eq_self]);clear e
 intro e;(try simp only[e,aa,-eq_self]);clear e
 constructor<;>intro c10
 intro e;(try simp only[e,aa,-eq_self]);clear e
 intro e;(try simp only[e,aa,-eq_self]);clear e
 ·(have s1:=jk (wfg) (by exact c1);have s2:=acZ (r:=bsgn a) (by rw[s1];exact c3);have s3:=jk (cJ (bX wfg)) (by rw[s2,s1];exact c9);have hok:bnok a=true:=(by unfold bnok;(try rw[s3,s2,s1]);(try rw[c0]);(try rw[c2]);(try rw[c8]);(try rw[c10]);(try rfl));have hnar:bnar a=bsgn (buns (bsgn a)):=(by unfold bnar;rw[hok];rfl);rw[hok,hnar];rw[s3,s2,s1];(try rfl))
 intro e;(try simp only[e,aa,-eq_self]);clear e
 ·(have s1:=jk (wfg) (by exact c1);have s2:=acZ (r:=bsgn a) (by rw[s1];exact c3);have s3:=jk (cJ (bX wfg)) (by rw[s2,s1];exact c9);have hok:bnok a=false:=(by unfold bnok;(try rw[s3,s2,s1]);(try rw[c0]);(try rw[c2]);(try rw[c8]);(try rw[c10]);(try rfl));have hnar:bnar a=ball:=(by unfold bnar;rw[hok];rfl);rw[hok,hnar];(try rfl))
 intro e;(try simp only[e,aa,-eq_self]);clear e
 intro e;(try simp only[e,aa,-eq_self]);clear e
 constructor<;>intro c11
 intro e;(try simp only[e,aa,-eq_self]);clear e
 intro e;(try simp only[e,aa,-eq_self]);clear e
 ·(have s1:=jk (wfg) (by exact c1);have s2:=acZ (r:=bsgn a) (by rw[s1];exact c3);have s3:=oe (cJ (bX wfg)) (by rw[s2,s1];exact c9);have hok:bnok a=true:=(by unfold bnok;(try rw[s3,s2,s1]);(try rw[c0]);(try rw[c2]);(try rw[c8]);(try rw[c11]);(try rfl));have hnar:bnar a=bsgn (buns (bsgn a)):=(by unfold bnar;rw[hok];rfl);rw[hok,hnar];rw[s3,s2,s1];(try rfl))
 intro e;(try simp only[e,aa,-eq_self]);clear e
 ·exact absurd (c8.symm.trans c11) (by simp)
 intro e;(try simp only[e,aa,-eq_self]);clear e
 ·exact absurd (c2.symm.trans c8) (by simp)
 intro e;(try simp only[e,aa,-eq_self]);clear e
 ·(have s1:=jk (wfg) (by exact c1);have hok:bnok a=false:=(by unfold bnok;(try rw[s1]);(try rw[c0]);(try rw[c2]);(try rfl));have hnar:bnar a=ball:=(by unfold bnar;rw[hok];rfl);rw[hok,hnar];(try rfl))
 intro e;(try simp only[e,aa,-eq_self]);clear e
 intro e;(try simp only[e,aa,-eq_self]);clear e
 constructor<;>intro c12
 intro e;(try simp only[e,aa,-eq_self]);clear e
 intro e;(try simp only[e,aa,-eq_self]);clear e
 constructor<;>intro c13
 intro e;(try simp only[e,aa,-eq_self]);clear e
 intro e;(try simp only[e,aa,-eq_self]);clear e
 intro e;(try simp only[e,aa,-eq_self]);clear e
 constructor<;>intro c14
 intro e;(try simp only[e,aa,-eq_self]);clear e
 intro e;(try simp only[e,aa,-eq_self]);clear e
 constructor<;>intro c15
 intro e;(try simp only[e,aa,-eq_self]);clear e
 intro e;(try simp only[e,aa,-eq_self]);clear e
 intro e;(try simp only[e,aa,-eq_self]);clear e
 constructor<;>intro c16
 intro e;(try simp only[e,aa,-eq_self]);clear e
 intro e;(try simp only[e,aa,-eq_self]);clear e
 ·(have s1:=oe (wfg) (by exact c1);have s2:=vj (r:=bsgn a) (by rw[s1];exact c13);have s3:=jk (cJ (bX wfg)) (by rw[s2,s1];exact c15);have hok:bnok a=true:=(by unfold bnok;(try rw[s3,s2,s1]);(try rw[c0]);(try rw[c12]);(try rw[c14]);(try rw[c16]);(try rfl));have hnar:bnar a=bsgn (buns (bsgn a)):=(by unfold bnar;rw[hok];rfl);rw[hok,hnar];rw[s3,s2,s1];(try rfl))
 intro e;(try simp only[e,aa,-eq_self]);clear e
 ·(have s1:=oe (wfg) (by exact c1);have s2:=vj (r:=bsgn a) (by rw[s1];exact c13);have s3:=jk (cJ (bX wfg)) (by rw[s2,s1];exact c15);have hok:bnok a=false:=(by unfold bnok;(try rw[s3,s2,s1]);(try rw[c0]);(try rw[c12]);(try rw[c14]);(try rw[c16]);(try rfl));have hnar:bnar a=ball:=(by unfold bnar;rw[hok];rfl);rw[hok,hnar];(try rfl))
 intro e;(try simp only[e,aa,-eq_self]);clear e
 intro e;(try simp only[e,aa,-eq_self]);clear e
 constructor<;>intro c17
 intro e;(try simp only[e,aa,-eq_self]);clear e
 intro e;(try simp only[e,aa,-eq_self]);clear e
 ·(have s1:=oe (wfg) (by exact c1);have s2:=vj (r:=bsgn a) (by rw[s1];exact c13);have s3:=oe (cJ (bX wfg)) (by rw[s2,s1];exact c15);have hok:bnok a=true:=(by unfold bnok;(try rw[s3,s2,s1]);(try rw[c0]);(try rw[c12]);(try rw[c14]);(try rw[c17]);(try rfl));have hnar:bnar a=bsgn (buns (bsgn a)):=(by unfold bnar;rw[hok];rfl);rw[hok,hnar];rw[s3,s2,s1];(try rfl))
 intro e;(try simp only[e,aa,-eq_self]);clear e
 ·exact absurd (c14.symm.trans c17) (by simp)
 intro e;(try simp only[e,aa,-eq_self]);clear e
 ·(have s1:=oe (wfg) (by exact c1);have s2:=vj (r:=bsgn a) (by rw[s1];exact c13);have hok:bnok a=false:=(by unfold bnok;(try rw[s2,s1]);(try rw[c0]);(try rw[c12]);(try rw[c14]);(try rfl));have hnar:bnar a=ball:=(by unfold bnar;rw[hok];rfl);rw[hok,hnar];(try rfl))
 intro e;(try simp only[e,aa,-eq_self]);clear e
 intro e;(try simp only[e,aa,-eq_self]);clear e
 constructor<;>intro c18
 intro e;(try simp only[e,aa,-eq_self]);clear e
 intro e;(try simp only[e,aa,-eq_self]);clear e
 constructor<;>intro c19
 intro e;(try simp only[e,aa,-eq_self]);clear e
 intro e;(try simp only[e,aa,-eq_self]);clear e
 intro e;(try simp only[e,aa,-eq_self]);clear e
 constructor<;>intro c20
 intro e;(try simp only[e,aa,-eq_self]);clear e
 intro e;(try simp only[e,aa,-eq_self]);clear e
 ·(have s1:=oe (wfg) (by exact c1);have s2:=acZ (r:=bsgn a) (by rw[s1];exact c13);have s3:=jk (cJ (bX wfg)) (by rw[s2,s1];exact c19);have hok:bnok a=true:=(by unfold bnok;(try rw[s3,s2,s1]);(try rw[c0]);(try rw[c12]);(try rw[c18]);(try rw[c20]);(try rfl));have hnar:bnar a=bsgn (buns (bsgn a)):=(by unfold bnar;rw[hok];rfl);rw[hok,hnar];rw[s3,s2,s1];(try rfl))
 intro e;(try simp only[e,aa,-eq_self]);clear e
 ·(have s1:=oe (wfg) (by exact c1);have s2:=acZ (r:=bsgn a) (by rw[s1];exact c13);have s3:=jk (cJ (bX wfg)) (by rw[s2,s1];exact c19);have hok:bnok a=false:=(by unfold bnok;(try rw[s3,s2,s1]);(try rw[c0]);(try rw[c12]);(try rw[c18]);(try rw[c20]);(try rfl));have hnar:bnar a=ball:=(by unfold bnar;rw[hok];rfl);rw[hok,hnar];(try rfl))
 intro e;(try simp only[e,aa,-eq_self]);clear e
 intro e;(try simp only[e,aa,-eq_self]);clear e
 constructor<;>intro c21
 intro e;(try simp only[e,aa,-eq_self]);clear e
 intro e;(try simp only[e,aa,-eq_self]);clear e
 ·(have s1:=oe (wfg) (by exact c1);have s2:=acZ (r:=bsgn a) (by rw[s1];exact c13);have s3:=oe (cJ (bX wfg)) (by rw[s2,s1];exact c19);have hok:bnok a=true:=(by unfold bnok;(try rw[s3,s2,s1]);(try rw[c0]);(try rw[c12]);(try rw[c18]);(try rw[c21]);(try rfl));have hnar:bnar a=bsgn (buns (bsgn a)):=(by unfold bnar;rw[hok];rfl);rw[hok,hnar];rw[s3,s2,s1];(try rfl))
 intro e;(try simp only[e,aa,-eq_self]);clear e
 ·exact absurd (c18.symm.trans c21) (by simp)
 intro e;(try simp only[e,aa,-eq_self]);clear e
 ·exact absurd (c12.symm.trans c18) (by simp)
 intro e;(try simp only[e,aa,-eq_self]);clear e
 ·exact absurd (c0.symm.trans c12) (by simp)
 intro e;(try simp only[e,aa,-eq_self]);clear e
 ·(have hok:bnok a=false:=(by unfold bnok;(try rw[hok]);(try rw[c0]);(try rfl));have hnar:bnar a=ball:=(by unfold bnar;rw[hok];rfl);rw[hok,hnar];(try rfl))
theorem ahU {sp:Spec} {key:Nat} (hF:sp.F key=kW) (hP:sp.pre key=fun _=>True:=by rfl):SmOk Tryz.prog sp (wT key):=
 aq (s:=wT key) hF hP mxo6 en (smc (kI rfl) (smc (fK rfl) (smc (qQ rfl) (smc (qR rfl) (smc (abJ rfl) (smc (abM rfl) (smc (adj rfl) sm0))))))) Tryz.func201 fn0 atF (.inl rfl) (fun x0 gx0 x1 gx1 x2 gx2 x3 gx3 hp U g=>atg ⟨x0,x1,x2,x3⟩ ⟨gx0,gx1,gx2,gx3⟩ U g)
def zv (key:Nat):Sm:=⟨240,key,[.one (.int .i64),.one (.int .i64)],[.one (.int .i64),.one .bool],true⟩
def yZ (a:Int) (b:Int):List Dt:=[.z (IntKind.i64.wrap (a+b)),.z (b2i (decide (-9223372036854775808<=a+b/\a+b<=9223372036854775807)))]
def pi:List Dt->List Dt
 | [.z x0,.z x1]=>yZ x0 x1
 | _=>[]
def sT_plus:Tr:=
(.leaf (.cons (.bin .add .i64 (.var 0) (.var 1)) (.cb (.not (.lt (.bin .and .i64 (.bin .xor .i64 (.var 0) (.bin .add .i64 (.var 0) (.var 1))) (.bin .xor .i64 (.var 1) (.bin .add .i64 (.var 0) (.var 1)))) (.lit 0))) .nil)))
def ag6:Spec:={F:=fun k=>match k with | _=>fun _=>[],pre:=fun _ _=>True}
theorem aqX:ap tys_XbB [] [] [] [] 200 Tryz.f240 [.one (.int .i64),.one (.int .i64)] [.one (.int .i64),.one .bool] true [.int .i64,.int .i64] sT_plus:=⟨by kernel_rfl,by kernel_rfl,by kernel_rfl⟩
theorem aqf (a:Int) (ha:inK .i64 a=true) (b:Int) (hb:inK .i64 b=true) (U:Env) (g:varsD U 0 [.int .i64,.int .i64]=[.z a,.z b]):sT_plus.asks ag6 (fun U e=>e.D U=pi [.z a,.z b]) U fun _ _=>False:=by
 simp only[varsD,varD,thm5,gS0,Nat.reduceAdd,and_true] at g
 simp only[sT_plus,ag6,pi,yZ,simQ,ai,S1,Nat.reduceSub,Nat.reduceAdd,-eq_self,g]
 ·(have ga:=gC ha;have gb:=gC hb;simp only[opI,<-cq,<-aim ga.1 ga.2 gb.1 gb.2,Go.IntWalk.i64_left])
theorem ars {sp:Spec} {key:Nat} (hF:sp.F key=pi) (hP:sp.pre key=fun _=>True:=by rfl):SmOk Tryz.prog sp (zv key):=
 aq (s:=zv key) hF hP mxo6 en (sm0) Tryz.func240 fn0 aqX (.inl rfl) (fun x0 gx0 x1 gx1 hp U g=>aqf x0 gx0 x1 gx1 U g)
def tU (key:Nat):Sm:=⟨241,key,[.one (.int .i64),.one (.int .i64)],[.one (.int .i64),.one .bool],true⟩
def sW (a:Int) (b:Int):List Dt:=[.z (IntKind.i64.wrap (a-b)),.z (b2i (decide (-9223372036854775808<=a-b/\a-b<=9223372036854775807)))]
def kX:List Dt->List Dt
 | [.z x0,.z x1]=>sW x0 x1
 | _=>[]
def sT_minus:Tr:=
(.leaf (.cons (.bin .sub .i64 (.var 0) (.var 1)) (.cb (.not (.lt (.bin .and .i64 (.bin .xor .i64 (.var 0) (.var 1)) (.bin .xor .i64 (.var 0) (.bin .sub .i64 (.var 0) (.var 1)))) (.lit 0))) .nil)))
def abv:Spec:={F:=fun k=>match k with | _=>fun _=>[],pre:=fun _ _=>True}
theorem alK:ap tys_XbB [] [] [] [] 200 Tryz.f241 [.one (.int .i64),.one (.int .i64)] [.one (.int .i64),.one .bool] true [.int .i64,.int .i64] sT_minus:=⟨by kernel_rfl,by kernel_rfl,by kernel_rfl⟩
theorem ala (a:Int) (ha:inK .i64 a=true) (b:Int) (hb:inK .i64 b=true) (U:Env) (g:varsD U 0 [.int .i64,.int .i64]=[.z a,.z b]):sT_minus.asks abv (fun U e=>e.D U=kX [.z a,.z b]) U fun _ _=>False:=by
 simp only[varsD,varD,thm5,gS0,Nat.reduceAdd,and_true] at g
 simp only[sT_minus,abv,kX,sW,simQ,ai,S1,Nat.reduceSub,Nat.reduceAdd,-eq_self,g]
 ·(have ga:=gC ha;have gb:=gC hb;simp only[opI,<-cq,<-adu ga.1 ga.2 gb.1 gb.2,Go.IntWalk.i64_left])
theorem amc {sp:Spec} {key:Nat} (hF:sp.F key=kX) (hP:sp.pre key=fun _=>True:=by rfl):SmOk Tryz.prog sp (tU key):=
 aq (s:=tU key) hF hP mxo6 en (sm0) Tryz.func241 fn0 alK (.inl rfl) (fun x0 gx0 x1 gx1 hp U g=>ala x0 gx0 x1 gx1 U g)
def tT (key:Nat):Sm:=⟨225,key,[.agg kRg],[.agg kRg],false⟩
def sV (a:Rg):List Dt:=[.z ((bnar a).ul),.z ((bnar a).uh),.z ((bnar a).sl),.z ((bnar a).sh)]
def jM:List Dt->List Dt
 | [.z x0,.z x1,.z x2,.z x3]=>sV ⟨x0,x1,x2,x3⟩
 | _=>[]
def sT_nard:Tr:=
(.call 0 (kRg++[.bool]) (.vs 0 4 .nil) 4
(.leaf (.vs 4 4 .nil)))
def ag8:Spec:={F:=fun k=>match k with | 0=>kW | _=>fun _=>[],pre:=fun _ _=>True}
theorem aqZ:ap tys_XbB [wT 0] [] [] [] 200 Tryz.f225 [.agg kRg] [.agg kRg] false [.int .u64,.int .u64,.int .i64,.int .i64] sT_nard:=⟨by kernel_rfl,by kernel_rfl,by kernel_rfl⟩
theorem aqh (a:Rg) (ha:Rg.ok a) (U:Env) (g:varsD U 0 [.int .u64,.int .u64,.int .i64,.int .i64]=[.z a.ul,.z a.uh,.z a.sl,.z a.sh]):sT_nard.asks ag8 (fun U e=>e.D U=jM [.z a.ul,.z a.uh,.z a.sl,.z a.sh]) U fun _ _=>False:=by
 simp only[varsD,varD,thm5,gS0,Nat.reduceAdd,and_true] at g
 simp only[sT_nard,ag8,kRg,kW,wy,jM,sV,simQ,ai,S1,Nat.reduceSub,Nat.reduceAdd,-eq_self,aa,g]
 intro e;(try simp only[e,aa,-eq_self]);clear e
 ·rfl
theorem ahT {sp:Spec} {key:Nat} (hF:sp.F key=jM) (hP:sp.pre key=fun _=>True:=by rfl):SmOk Tryz.prog sp (tT key):=
 aq (s:=tT key) hF hP mxo6 en (smc (ahU rfl) sm0) Tryz.func225 fn0 aqZ (.inl rfl) (fun x0 gx0 x1 gx1 x2 gx2 x3 gx3 hp U g=>aqh ⟨x0,x1,x2,x3⟩ ⟨gx0,gx1,gx2,gx3⟩ U g)
def tV (key:Nat):Sm:=⟨193,key,[.agg kRg,.agg kRg],[.agg kRg,.one .bool],true⟩
def sX (a:Rg) (b:Rg):List Dt:=[.z ((fB a b).ul),.z ((fB a b).uh),.z ((fB a b).sl),.z ((fB a b).sh),.z (b2i (dM a b))]
def jN:List Dt->List Dt
 | [.z x0,.z x1,.z x2,.z x3,.z x4,.z x5,.z x6,.z x7]=>sX ⟨x0,x1,x2,x3⟩ ⟨x4,x5,x6,x7⟩
 | _=>[]
def sT_meet:Tr:=
(.call 0 [.bool] (.vs 0 4 .nil) 8
(.br (.bw 8)
(.call 0 [.bool] (.vs 4 4 .nil) 9
(.br (.bw 9)
(.call 2 (kPu) (.vs 0 4 .nil) 10
(.call 2 (kPu) (.vs 4 4 .nil) 12
(.call 4 (kPu) (.vs 10 4 .nil) 14
(.call 3 (kPi) (.vs 0 4 .nil) 16
(.call 3 (kPi) (.vs 4 4 .nil) 18
(.call 5 (kPi) (.vs 16 4 .nil) 20
(.call 6 (kRg) (.vs 14 2 (.vs 20 2 .nil)) 22
(.call 7 (kRg++[.bool]) (.vs 22 4 .nil) 26
(.leaf (.vs 26 4 (.cb (.bw 30) .nil)))))))))))
(.call 1 (kRg) .nil 10
(.leaf (.vs 10 4 (.cb (.tt false) .nil))))))
(.call 1 (kRg) .nil 9
(.leaf (.vs 9 4 (.cb (.tt false) .nil))))))
def ag9:Spec:={F:=fun k=>match k with | 0=>cE | 1=>bF | 2=>ew | 3=>ez | 4=>gj | 5=>gq | 6=>jK | 7=>kW | _=>fun _=>[],pre:=fun _ _=>True}
theorem aq0:ap tys_XbB [hZ 0,eu 1,mQ 2,mR 3,nA 4,nD 5,wS 6,wT 7] [] [] [] 200 Tryz.f193 [.agg kRg,.agg kRg] [.agg kRg,.one .bool] true [.int .u64,.int .u64,.int .i64,.int .i64,.int .u64,.int .u64,.int .i64,.int .i64] sT_meet:=⟨by kernel_rfl,by kernel_rfl,by kernel_rfl⟩
theorem aqi (a:Rg) (ha:Rg.ok a) (b:Rg) (hb:Rg.ok b) (U:Env) (g:varsD U 0 [.int .u64,.int .u64,.int .i64,.int .i64,.int .u64,.int .u64,.int .i64,.int .i64]=[.z a.ul,.z a.uh,.z a.sl,.z a.sh,.z b.ul,.z b.uh,.z b.sl,.z b.sh]):sT_meet.asks ag9 (fun U e=>e.D U=jN [.z a.ul,.z a.uh,.z a.sl,.z a.sh,.z b.ul,.z b.uh,.z b.sl,.z b.sh]) U fun _ _=>False:=by
 simp only[varsD,varD,thm5,gS0,Nat.reduceAdd,and_true] at g
 simp only[sT_meet,ag9,kPi,kPu,kRg,cE,bF,ew,ez,gj,gq,jK,kW,gY,mO,mP,nu,ny,wx,wy,jN,sX,simQ,ai,S1,Nat.reduceSub,Nat.reduceAdd,-eq_self,aa,g]
 intro e;(try simp only[e,aa,-eq_self]);clear e
 constructor<;>intro c0
 intro e;(try simp only[e,aa,-eq_self]);clear e
 constructor<;>intro c1
 intro e;(try simp only[e,aa,-eq_self]);clear e
 intro e;(try simp only[e,aa,-eq_self]);clear e
 intro e;(try simp only[e,aa,-eq_self]);clear e
 intro e;(try simp only[e,aa,-eq_self]);clear e
 intro e;(try simp only[e,aa,-eq_self]);clear e
 intro e;(try simp only[e,aa,-eq_self]);clear e
 intro e;(try simp only[e,aa,-eq_self]);clear e
 intro e;(try simp only[e,aa,-eq_self]);clear e
 ·(unfold fB dM;simp_all [jz,aaz])
 intro e;(try simp only[e,aa,-eq_self]);clear e
 ·(unfold fB dM;simp_all [jz,aaz])
 intro e;(try simp only[e,aa,-eq_self]);clear e
 ·(unfold fB dM;simp_all [jz,aaz])
theorem ahV {sp:Spec} {key:Nat} (hF:sp.F key=jN) (hP:sp.pre key=fun _=>True:=by rfl):SmOk Tryz.prog sp (tV key):=
 aq (s:=tV key) hF hP mxo6 en (smc (kI rfl) (smc (fK rfl) (smc (qQ rfl) (smc (qR rfl) (smc (abJ rfl) (smc (abM rfl) (smc (adj rfl) (smc (ahU rfl) sm0)))))))) Tryz.func193 fn0 aq0 (.inl rfl) (fun x0 gx0 x1 gx1 x2 gx2 x3 gx3 x4 gx4 x5 gx5 x6 gx6 x7 gx7 hp U g=>aqi ⟨x0,x1,x2,x3⟩ ⟨gx0,gx1,gx2,gx3⟩ ⟨x4,x5,x6,x7⟩ ⟨gx4,gx5,gx6,gx7⟩ U g)
def arh (key:Nat):Sm:=⟨184,key,[.agg kRg,.agg kRg],[.one .bool],false⟩
def aqA (a:Rg) (b:Rg):List Dt:=[.z (b2i (bin a b))]
def ah4:List Dt->List Dt
 | [.z x0,.z x1,.z x2,.z x3,.z x4,.z x5,.z x6,.z x7]=>aqA ⟨x0,x1,x2,x3⟩ ⟨x4,x5,x6,x7⟩
 | _=>[]
def sT_in:Tr:=
(.call 0 [.bool] (.vs 0 4 .nil) 8
(.br (.bw 8)
(.call 0 [.bool] (.vs 4 4 .nil) 9
(.br (.bw 9)
(.call 1 (kRg) (.vs 0 8 .nil) 10
(.leaf (.cb (.and (.eq (.var 10) (.var 4)) (.and (.eq (.var 11) (.var 5)) (.and (.eq (.var 12) (.var 6)) (.and (.eq (.var 13) (.var 7)) (.tt true))))) .nil)))
(.leaf (.cb (.tt false) .nil))))
(.leaf (.cb (.tt false) .nil))))
def atU:Spec:={F:=fun k=>match k with | 0=>cE | 1=>jQ | _=>fun _=>[],pre:=fun _ _=>True}
theorem avK:ap tys_XbB [hZ 0,tZ 1] [] [] [] 200 Tryz.f184 [.agg kRg,.agg kRg] [.one .bool] false [.int .u64,.int .u64,.int .i64,.int .i64,.int .u64,.int .u64,.int .i64,.int .i64] sT_in:=⟨by kernel_rfl,by kernel_rfl,by kernel_rfl⟩
theorem avG (a:Rg) (ha:Rg.ok a) (b:Rg) (hb:Rg.ok b) (U:Env) (g:varsD U 0 [.int .u64,.int .u64,.int .i64,.int .i64,.int .u64,.int .u64,.int .i64,.int .i64]=[.z a.ul,.z a.uh,.z a.sl,.z a.sh,.z b.ul,.z b.uh,.z b.sl,.z b.sh]):sT_in.asks atU (fun U e=>e.D U=ah4 [.z a.ul,.z a.uh,.z a.sl,.z a.sh,.z b.ul,.z b.uh,.z b.sl,.z b.sh]) U fun _ _=>False:=by
 simp only[varsD,varD,thm5,gS0,Nat.reduceAdd,and_true] at g
 simp only[sT_in,atU,kRg,cE,jQ,gY,te,ah4,aqA,simQ,ai,S1,Nat.reduceSub,Nat.reduceAdd,-eq_self,aa,g]
 intro e;(try simp only[e,aa,-eq_self]);clear e
 constructor<;>intro c0
 intro e;(try simp only[e,aa,-eq_self]);clear e
 constructor<;>intro c1
 intro e;(try simp only[e,aa,-eq_self]);clear e
 ·(unfold bin;simp_all [Rg.ext_iff];try (rw[aJ];simp))
 ·(unfold bin;simp_all [Rg.ext_iff];try (rw[aJ];simp))
 ·(unfold bin;simp_all [Rg.ext_iff];try (rw[aJ];simp))
theorem avM {sp:Spec} {key:Nat} (hF:sp.F key=ah4) (hP:sp.pre key=fun _=>True:=by rfl):SmOk Tryz.prog sp (arh key):=
 aq (s:=arh key) hF hP mxo6 en (smc (kI rfl) (smc (ahZ rfl) sm0)) Tryz.func184 fn0 avK (.inl rfl) (fun x0 gx0 x1 gx1 x2 gx2 x3 gx3 x4 gx4 x5 gx5 x6 gx6 x7 gx7 hp U g=>avG ⟨x0,x1,x2,x3⟩ ⟨gx0,gx1,gx2,gx3⟩ ⟨x4,x5,x6,x7⟩ ⟨gx4,gx5,gx6,gx7⟩ U g)
def abG (key:Nat):Sm:=⟨234,key,[.agg kRg],[.agg kRg],false⟩
def aba (a:Rg):List Dt:=[.z ((blow a).ul),.z ((blow a).uh),.z ((blow a).sl),.z ((blow a).sh)]
def pj:List Dt->List Dt
 | [.z x0,.z x1,.z x2,.z x3]=>aba ⟨x0,x1,x2,x3⟩
 | _=>[]
def zsh3:Tr:=(.call 1 (kRg) .nil 5
(.call 2 (kRg) (.cons (.var 5) (.cons (.lit 4294967295) (.vs 7 2 .nil))) 9
(.leaf (.vs 9 4 .nil))))
def sT_low:Tr:=
(.call 0 [.bool] (.vs 0 4 .nil) 4
(.br (.bw 4)
(.br (.lt (.lit 4294967295) (.var 1))
 zsh3
(.leaf (.vs 0 4 .nil)))
 zsh3))
def anP:Spec:={F:=fun k=>match k with | 0=>cE | 1=>bF | 2=>jM | _=>fun _=>[],pre:=fun _ _=>True}
theorem atH:ap tys_XbB [hZ 0,eu 1,tT 2] [] [] [] 200 Tryz.f234 [.agg kRg] [.agg kRg] false [.int .u64,.int .u64,.int .i64,.int .i64] sT_low:=⟨by kernel_rfl,by kernel_rfl,by kernel_rfl⟩
theorem ati (a:Rg) (ha:Rg.ok a) (U:Env) (g:varsD U 0 [.int .u64,.int .u64,.int .i64,.int .i64]=[.z a.ul,.z a.uh,.z a.sl,.z a.sh]):sT_low.asks anP (fun U e=>e.D U=pj [.z a.ul,.z a.uh,.z a.sl,.z a.sh]) U fun _ _=>False:=by
 simp only[varsD,varD,thm5,gS0,Nat.reduceAdd,and_true] at g
 simp only[sT_low,zsh3,anP,kRg,cE,bF,jM,gY,sV,pj,aba,simQ,ai,S1,Nat.reduceSub,Nat.reduceAdd,-eq_self,aa,g]
 intro e;(try simp only[e,aa,-eq_self]);clear e
 constructor<;>intro c0
 constructor<;>intro c1
 intro e;(try simp only[e,aa,-eq_self]);clear e
 intro e;(try simp only[e,aa,-eq_self]);clear e
 ·(rw[show blow a=bnar (bu 0 4294967295) from if_neg (fun q=>absurd (thm3 c1) (bq.2 q.2))];try rfl)
 ·(rw[show blow a=a from if_pos ⟨c0,bq.1 (thm2 c1)⟩];try rfl)
 intro e;(try simp only[e,aa,-eq_self]);clear e
 intro e;(try simp only[e,aa,-eq_self]);clear e
 ·(rw[show blow a=bnar (bu 0 4294967295) from if_neg (fun q=>by rw[c0] at q;exact absurd q.1 (by simp))];try rfl)
theorem an0 {sp:Spec} {key:Nat} (hF:sp.F key=pj) (hP:sp.pre key=fun _=>True:=by rfl):SmOk Tryz.prog sp (abG key):=
 aq (s:=abG key) hF hP mxo6 en (smc (kI rfl) (smc (fK rfl) (smc (ahT rfl) sm0))) Tryz.func234 fn0 atH (.inl rfl) (fun x0 gx0 x1 gx1 x2 gx2 x3 gx3 hp U g=>ati ⟨x0,x1,x2,x3⟩ ⟨gx0,gx1,gx2,gx3⟩ U g)
set_option linter.unusedSectionVars false
open Go
theorem agg4 {x0 x1 x2 x3 y0 y1 y2 y3:Int} (h0:x0=y0) (h1:x1=y1) (h2:x2=y2) (h3:x3=y3):[Dt.z x0,.z x1,.z x2,.z x3]=[Dt.z y0,.z y1,.z y2,.z y3]:=by rw[h0,h1,h2,h3]
theorem dn {r s:Rg} (h:r=s):[Dt.z r.ul,.z r.uh,.z r.sl,.z r.sh]=[Dt.z s.ul,.z s.uh,.z s.sl,.z s.sh]:=by rw[h]
def xsum (t:Bool) (a b:Rg):Rg:=
 match t with
 | false=>⟨if a.uh+b.uh<=18446744073709551615 then IntKind.u64.wrap (a.ul+b.ul) else 0,if a.uh+b.uh<=18446744073709551615 then a.uh+b.uh else 18446744073709551615,(bsum a b).sl,(bsum a b).sh⟩
 | true=>⟨if b.uh<=a.ul then IntKind.u64.wrap (a.ul-b.uh) else 0,if b.uh<=a.ul then IntKind.u64.wrap (a.uh-b.ul) else 18446744073709551615,(bdif a b).sl,(bdif a b).sh⟩
section
variable {a b:Rg} (ha:a.ok) (hb:b.ok)
theorem aaT (h1:decide (-9223372036854775808<=a.sl+b.sl/\a.sl+b.sl<=9223372036854775807)=true) (h2:decide (-9223372036854775808<=a.sh+b.sh/\a.sh+b.sh<=9223372036854775807)=true):
  IntKind.i64.wrap (a.sl+b.sl)=(xsum false a b).sl/\IntKind.i64.wrap (a.sh+b.sh)=(xsum false a b).sh:=by
 have h1:=thm3 h1;have h2:=thm3 h2
 simp only[xsum,bsum]
 rw[if_pos ⟨h1,h2⟩,if_pos ⟨h1,h2⟩,aR,aR]
 omega
theorem mN (h:decide (-9223372036854775808<=a.sl+b.sl/\a.sl+b.sl<=9223372036854775807)=false\/decide (-9223372036854775808<=a.sh+b.sh/\a.sh+b.sh<=9223372036854775807)=false):
  ball.sl=(xsum false a b).sl/\ball.sh=(xsum false a b).sh:=by
 have hn:¬((-9223372036854775808<=a.sl+b.sl/\a.sl+b.sl<=9223372036854775807)/\(-9223372036854775808<=a.sh+b.sh/\a.sh+b.sh<=9223372036854775807)):=fun q=>by
  rcases h with h | h
  ·exact thm2 h q.1
  ·exact thm2 h q.2
 simp only[xsum,bsum]
 rw[if_neg hn,if_neg hn]
 exact⟨rfl,rfl⟩
theorem acK (h1:decide (-9223372036854775808<=a.sl-b.sh/\a.sl-b.sh<=9223372036854775807)=true) (h2:decide (-9223372036854775808<=a.sh-b.sl/\a.sh-b.sl<=9223372036854775807)=true):
  IntKind.i64.wrap (a.sl-b.sh)=(xsum true a b).sl/\IntKind.i64.wrap (a.sh-b.sl)=(xsum true a b).sh:=by
 have h1:=thm3 h1;have h2:=thm3 h2
 simp only[xsum,bdif]
 rw[if_pos ⟨h1,h2⟩,if_pos ⟨h1,h2⟩,aR,aR]
 omega
theorem nh (h:decide (-9223372036854775808<=a.sl-b.sh/\a.sl-b.sh<=9223372036854775807)=false\/decide (-9223372036854775808<=a.sh-b.sl/\a.sh-b.sl<=9223372036854775807)=false):
  ball.sl=(xsum true a b).sl/\ball.sh=(xsum true a b).sh:=by
 have hn:¬((-9223372036854775808<=a.sl-b.sh/\a.sl-b.sh<=9223372036854775807)/\(-9223372036854775808<=a.sh-b.sl/\a.sh-b.sl<=9223372036854775807)):=fun q=>by
  rcases h with h | h
  ·exact thm2 h q.1
  ·exact thm2 h q.2
 simp only[xsum,bdif]
 rw[if_neg hn,if_neg hn]
 exact⟨rfl,rfl⟩
include ha hb
theorem qE (h:((a.uh+b.uh) / 18446744073709551616==0)=true):opI .add .u64 a.ul b.ul=(xsum false a b).ul/\(a.uh+b.uh) % 18446744073709551616=(xsum false a b).uh:=by
 have h:=db.1 h
 have wa:=(Rg.wf_of ha).2.1;have wb:=(Rg.wf_of hb).2.1
 have hc:a.uh+b.uh<=18446744073709551615:=by omega
 simp only[xsum]
 rw[if_pos hc,if_pos hc]
 exact⟨rfl,by omega⟩
theorem qF (h:((a.uh+b.uh) / 18446744073709551616==0)=false):ball.ul=(xsum false a b).ul/\ball.uh=(xsum false a b).uh:=by
 have h:=beq_eq_false_iff_ne.1 h
 have wa:=(Rg.wf_of ha).2.1;have wb:=(Rg.wf_of hb).2.1
 have hc:¬a.uh+b.uh<=18446744073709551615:=by omega
 simp only[xsum]
 rw[if_neg hc,if_neg hc]
 exact⟨rfl,rfl⟩
omit ha hb
theorem rA (h:decide (a.ul<b.uh)=false):opI .sub .u64 a.ul b.uh=(xsum true a b).ul/\opI .sub .u64 a.uh b.ul=(xsum true a b).uh:=by
 have hc:b.uh<=a.ul:=bq.1 (thm2 h)
 simp only[xsum]
 rw[if_pos hc,if_pos hc]
 exact⟨rfl,rfl⟩
theorem rC (h:decide (a.ul<b.uh)=true):ball.ul=(xsum true a b).ul/\ball.uh=(xsum true a b).uh:=by
 have hc:¬b.uh<=a.ul:=Int.not_le.2 (thm3 h)
 simp only[xsum]
 rw[if_neg hc,if_neg hc]
 exact⟨rfl,rfl⟩
end
theorem dS {op:Int} {a b:Rg} (ma:bmay a=true) (mb:bmay b=true) {X:Rg} (h:X=bdo0 op a b):bnar X=bdo op a b:=by
 unfold bdo;rw[if_pos ⟨ma,mb⟩,h]
theorem asK {a b:Rg} (ha:a.ok) (hb:b.ok) (ma:bmay a=true) (mb:bmay b=true):xsum false a b=bsum a b:=by
 have wa:=Rg.wf_of ha;have wb:=Rg.wf_of hb
 rw[ce] at ma mb
 obtain⟨⟨a0,a1⟩,⟨a2,a3⟩,_⟩:=wa
 obtain⟨⟨b0,b1⟩,⟨b2,b3⟩,_⟩:=wb
 rw[Rg.ext_iff]
 refine⟨?_,rfl,rfl,rfl⟩
 simp only[xsum,bsum]
 split
 ·rw[bf];omega
 ·rfl
theorem asJ {a b:Rg} (ha:a.ok) (hb:b.ok) (ma:bmay a=true) (mb:bmay b=true):xsum true a b=bdif a b:=by
 have wa:=Rg.wf_of ha;have wb:=Rg.wf_of hb
 rw[ce] at ma mb
 obtain⟨⟨a0,a1⟩,⟨a2,a3⟩,_⟩:=wa
 obtain⟨⟨b0,b1⟩,⟨b2,b3⟩,_⟩:=wb
 rw[Rg.ext_iff]
 refine⟨?_,?_,rfl,rfl⟩<;>simp only[xsum,bdif]<;>split
 ·rw[bf];omega
 ·rfl
 ·rw[bf];omega
 ·rfl
theorem eqz {x z:Int} (h:(x==z)=true):x=z:=by simpa using h
theorem nez {x z:Int} (h:(x==z)=false):x≠z:=by simpa using h
theorem aal {m:Int} (h0:0<=m) (h1:m<=18446744073709551615):opI .sub .u64 (opI .shl .u64 1 (aE m.toNat)) 1=lR m:=by
 have hb:aE m.toNat<=64:=eP (by omega)
 have h2:=uU h1
 unfold lR at h2 ⊢
 show IntKind.u64.wrap (IntKind.u64.wrap (1*2 ^ min ((aE m.toNat:Int).toNat) 64)-1)=_
 rw[dj,Nat.min_eq_left hb,Int.one_mul]
 generalize (2:Int) ^ aE m.toNat=t at *
 rw[bf,bf]
 omega
theorem aiw {x y:Int} (x0:0<=x) (x1:x<=18446744073709551615) (y0:0<y):opI .quo .u64 x y=x / y:=by
 show IntKind.u64.wrap (x.tdiv y)=_
 rw[Int.tdiv_eq_ediv_of_nonneg x0,bf]
 have:=ajs (z:=y) x0 x1 y0
 omega
theorem asw {b:Rg} (hb:b.ok) (h:eN b=true):opI .and .u64 (aC b) 63=((bby b:Nat):Int)/\bby b<64:=by
 have wb:=Rg.wf_of hb
 have e:aC b=b.ul:=by unfold aC;rw[h];simp
 show bits .and .u64 (aC b) 63=_/\_
 rw[e,avk _ wb.1.1 wb.1.2]
 unfold bby
 omega
theorem aiu {x:Int} {k:Nat} (x0:0<=x) (hk:k<64):opI .shr .u64 x (k:Int)=x / 2 ^ k:=by
 show x.fdiv (2 ^ min (k:Int).toNat 64)=_
 rw[dj,Nat.min_eq_left (by omega),Int.fdiv_eq_ediv_of_nonneg _ (Int.le_of_lt (Int.pow_pos (by omega)))]
theorem aiv {x:Int} {k:Nat} (hk:k<64) (h:0<=x*2 ^ k) (h':x*2 ^ k<=18446744073709551615):opI .shl .u64 x (k:Int)=x*2 ^ k:=by
 show IntKind.u64.wrap (x*2 ^ min (k:Int).toNat 64)=_
 rw[dj,Nat.min_eq_left (by omega),bf]
 omega
section
variable {op:Int} {a b:Rg} (ha:a.ok) (hb:b.ok) (ma:bmay a=true) (mb:bmay b=true)
include ha hb ma mb
theorem awB (h:(op==11)=true):bnar b=bdo op a b:=dS ma mb (by rw[eqz h];simp[bdo0])
theorem dq_0 (h:(op==0)=true):bnar (xsum (op==1) a b)=bdo op a b:=dS ma mb (by rw[eqz h];rw[show((0:Int)==1)=false from rfl,asK ha hb ma mb];simp[bdo0])
theorem dq_1 (h:(op==1)=true):bnar (xsum (op==1) a b)=bdo op a b:=dS ma mb (by rw[h,eqz h,asJ ha hb ma mb];simp[bdo0])
theorem dq_5 (h:(op==5)=true):bnar ⟨ball.ul,min a.uh b.uh,ball.sl,ball.sh⟩=bdo op a b:=dS ma mb (by rw[eqz h];simp[bdo0,bu,ball])
theorem auz:0<=max a.uh b.uh/\max a.uh b.uh<=18446744073709551615:=by
 have wa:=Rg.wf_of ha;have wb:=Rg.wf_of hb
 have:=wa.2.1;have:=wb.2.1
 omega
theorem dq_4 (h:(op==4)=true):bnar ⟨max a.ul b.ul,opI .sub .u64 (opI .shl .u64 1 (aE (max a.uh b.uh).toNat)) 1,ball.sl,ball.sh⟩=bdo op a b:=dS ma mb (by
 have:=auz ha hb ma mb
 rw[eqz h,aal this.1 this.2];simp[bdo0,bu,ball])
theorem awC (h:(op==10)=true):bnar ⟨ball.ul,opI .sub .u64 (opI .shl .u64 1 (aE (max a.uh b.uh).toNat)) 1,ball.sl,ball.sh⟩=bdo op a b:=dS ma mb (by
 have:=auz ha hb ma mb
 rw[eqz h,aal this.1 this.2];simp[bdo0,bu,ball])
theorem dq_3 (h:(op==3)=true) (hc:decide (0<b.ul)=true):bnar ⟨opI .quo .u64 a.ul b.uh,opI .quo .u64 a.uh b.ul,ball.sl,ball.sh⟩=bdo op a b:=dS ma mb (by
 have hc:=thm3 hc
 have wa:=Rg.wf_of ha
 rw[ce] at mb
 rw[eqz h,aiw wa.1.1 wa.1.2 (by omega),aiw wa.2.1.1 wa.2.1.2 hc];simp[bdo0,bu,ball,hc])
theorem awA (h:(op==3)=true) (hc:decide (0<b.ul)=false):bnar ⟨ball.ul,a.uh,ball.sl,ball.sh⟩=bdo op a b:=dS ma mb (by
 have hc:=thm2 hc
 rw[eqz h];simp[bdo0,bu,ball,hc])
theorem dq_9 (h:(op==9)=true) (hc:decide (0<b.ul)=true):bnar ⟨ball.ul,min a.uh (opI .sub .u64 b.uh 1),ball.sl,ball.sh⟩=bdo op a b:=dS ma mb (by
 have hc:=thm3 hc
 have wb:=Rg.wf_of hb
 rw[ce] at mb
 rw[eqz h,show opI .sub .u64 b.uh 1=b.uh-1 from by show IntKind.u64.wrap (b.uh-1)=_;rw[bf];have:=wb.2.1;omega];simp[bdo0,bu,ball,hc])
theorem aww (h:(op==9)=true) (hc:decide (0<b.ul)=false):bnar ⟨ball.ul,a.uh,ball.sl,ball.sh⟩=bdo op a b:=dS ma mb (by
 have hc:=thm2 hc
 rw[eqz h];simp[bdo0,bu,ball,hc])
theorem dq_7 (h:(op==7)=true) (hc:eN b=true):bnar ⟨opI .shr .u64 a.ul (opI .and .u64 (aC b) 63),opI .shr .u64 a.uh (opI .and .u64 (aC b) 63),ball.sl,ball.sh⟩=bdo op a b:=dS ma mb (by
 have wa:=Rg.wf_of ha
 obtain⟨e,e2⟩:=asw hb hc
 rw[eqz h,e,aiu wa.1.1 e2,aiu wa.2.1.1 e2];simp[bdo0,bu,ball,hc])
theorem awx (h:(op==7)=true) (hc:eN b=false):bnar ball=bdo op a b:=dS ma mb (by
 rw[eqz h];simp[bdo0,hc])
theorem lz_c (hc:eN b=true):decide (64-(aE a.uh.toNat:Int)<IntKind.i64.wrap (opI .and .u64 (aC b) 63)) = !decide (aE a.uh.toNat+bby b<=64):=by
 obtain⟨e,e2⟩:=asw hb hc
 rw[e,aR]
 rw[aJ]
 simp
 omega
theorem dq_6 (h:(op==6)=true) (hc:eN b=true) (hl:decide (64-(aE a.uh.toNat:Int)<IntKind.i64.wrap (opI .and .u64 (aC b) 63))=false):bnar ⟨opI .shl .u64 a.ul (opI .and .u64 (aC b) 63),opI .shl .u64 a.uh (opI .and .u64 (aC b) 63),ball.sl,ball.sh⟩=bdo op a b:=dS ma mb (by
 have wa:=Rg.wf_of ha
 rw[lz_c ha hb ma mb hc] at hl
 have hl':aE a.uh.toNat+bby b<=64:=by simpa using hl
 obtain⟨e,e2⟩:=asw hb hc
 rw[ce] at ma
 obtain⟨h1,h2,h3⟩:=anz wa.1.1 ma.1 hl'
 rw[eqz h,e,aiv e2 h1 (by omega),aiv e2 (by omega) h3];simp[bdo0,bu,ball,hc,hl'])
theorem awy (h:(op==6)=true) (hc:eN b=true) (hl:decide (64-(aE a.uh.toNat:Int)<IntKind.i64.wrap (opI .and .u64 (aC b) 63))=true):bnar ball=bdo op a b:=dS ma mb (by
 rw[lz_c ha hb ma mb hc] at hl
 have hl':¬aE a.uh.toNat+bby b<=64:=by simpa using hl
 rw[eqz h];simp[bdo0,hc,hl'])
theorem awz (h:(op==6)=true) (hc:eN b=false):bnar ball=bdo op a b:=dS ma mb (by
 rw[eqz h];simp[bdo0,hc])
theorem dq_x (h11:(op==11)=false) (h0:(op==0)=false) (h1:(op==1)=false) (h5:(op==5)=false) (h4:(op==4)=false) (h10:(op==10)=false) (h3:(op==3)=false) (h9:(op==9)=false) (h7:(op==7)=false) (h6:(op==6)=false):bnar ball=bdo op a b:=dS ma mb (by
 unfold bdo0
 rw[if_neg (nez h11),if_neg (nez h0),if_neg (nez h1),if_neg (nez h5),if_neg (nez h4),if_neg (nez h10),if_neg (nez h3),if_neg (nez h9),if_neg (nez h7),if_neg (nez h6)])
end
theorem aou {op:Int} {a b:Rg} (h:bmay a=false\/bmay b=false):ball=bdo op a b:=by
 unfold bdo
 rw[if_neg (fun e=>by rcases h with h | h<;>simp[h] at e)]
theorem cv {r s:Rg} {t u:Bool} (h:r=s) (h':t=u):[Dt.z r.ul,.z r.uh,.z r.sl,.z r.sh,.z (b2i t)]=[Dt.z s.ul,.z s.uh,.z s.sl,.z s.sh,.z (b2i u)]:=by rw[h,h']
section
variable {cc:Int} {a b X:Rg}
theorem iI (c0:cc≠0) (hg:jn cc a b=true) (hc:bcan cc a b=true) (e:X=brng cc a b):bnar X=bgiv cc a b/\bnok X=bgok cc a b:=by
 subst e
 have h1:bgok cc a b=bnok (brng cc a b):=by unfold bgok;rw[hg,hc,if_neg c0];rfl
 refine⟨?_,h1.symm⟩
 unfold bgiv
 rw[h1,if_neg c0]
 cases h:bnok (brng cc a b)
 ·unfold bnar;rw[h];simp
 ·simp
theorem fh (h:jn cc a b=false\/(cc≠0/\bcan cc a b=false)):ball=bgiv cc a b/\false=bgok cc a b:=by
 have h1:bgok cc a b=false:=by
  unfold bgok
  rcases h with h | ⟨h0,h⟩
  ·rw[h];rfl
  ·rw[h,if_neg h0];simp
 exact⟨by unfold bgiv;rw[h1];simp,h1.symm⟩
theorem auR (hg:jn 0 a b=true):fB a b=bgiv 0 a b/\dM a b=bgok 0 a b:=by
 have e:bgok 0 a b=dM a b:=by unfold bgok;rw[hg];rfl
 refine⟨?_,e.symm⟩
 unfold bgiv
 rw[e]
 cases h:dM a b
 ·unfold fB;rw[h];simp
 ·simp
theorem bA (c0:bmay a=true) (c1:bmay b=true) (h:0<=cc/\cc<=10):jn cc a b=true:=by
 unfold jn;rw[c0,c1,dU h.1,dU h.2];rfl
end
structure Kn where
 v:Int
 m:Int
 deriving DecidableEq
def Kn.wf (a:Kn):Prop:=(0<=a.v/\a.v<=18446744073709551615)/\(0<=a.m/\a.m<=18446744073709551615)
def kall:Kn:=⟨0,18446744073709551615⟩
def kone (v:Int):Kn:=⟨v,0⟩
def kmay (a:Kn):Bool:=bits .and .u64 a.v a.m==0
def khas (a:Kn) (x:Int):Bool:=kmay a&&(bits .andNot .u64 x a.m==a.v)
def eG (v m:Int):Kn:=⟨bits .andNot .u64 v m,m⟩
def gB (a b:Kn):Kn:=if kmay a=true/\kmay b=true then eG a.v (bits .or .u64 (bits .or .u64 a.m b.m) (bits .xor .u64 a.v b.v)) else kall
def aaa (a b:Kn):Int:=bits .andNot .u64 (bits .xor .u64 a.v b.v) (bits .or .u64 a.m b.m)
def dm (a b:Kn):Bool:=kmay a&&(kmay b&&(aaa a b==0))
def gA (a b:Kn):Kn:=if dm a b=true then eG (bits .or .u64 a.v b.v) (bits .and .u64 a.m b.m) else kall
def kin (a b:Kn):Bool:=kmay a&&(kmay b&&((bits .or .u64 a.m b.m==b.m)&&(bits .andNot .u64 a.v b.m==b.v)))
def kcut (a:Kn) (w:Int):Kn:=if kmay a=true then⟨zcut a.v w,zcut a.m w⟩ else kall
def kadd (a b:Kn):Kn:=eG (IntKind.u64.wrap (a.v+b.v)) (bits .or .u64 (bits .or .u64 (bits .xor .u64 (IntKind.u64.wrap (a.v+b.v)) (IntKind.u64.wrap (IntKind.u64.wrap (a.m+b.m)+IntKind.u64.wrap (a.v+b.v)))) a.m) b.m)
def ksub (a b:Kn):Kn:=eG (IntKind.u64.wrap (a.v-b.v)) (bits .or .u64 (bits .or .u64 (bits .xor .u64 (IntKind.u64.wrap (IntKind.u64.wrap (a.v-b.v)+a.m)) (IntKind.u64.wrap (IntKind.u64.wrap (a.v-b.v)-b.m))) a.m) b.m)
def kand (a b:Kn):Kn:=⟨bits .and .u64 a.v b.v,bits .andNot .u64 (bits .and .u64 (bits .or .u64 a.v a.m) (bits .or .u64 b.v b.m)) (bits .and .u64 a.v b.v)⟩
def kor (a b:Kn):Kn:=⟨bits .or .u64 a.v b.v,bits .andNot .u64 (bits .or .u64 a.m b.m) (bits .or .u64 a.v b.v)⟩
def kxor (a b:Kn):Kn:=eG (bits .xor .u64 a.v b.v) (bits .or .u64 a.m b.m)
def aob (op w:Int) (a b:Kn):Kn:=eG (zdo op w a.v (bits .and .u64 b.v (w-1))) (zdo op w a.m (bits .and .u64 b.v (w-1)))
def kop (op w:Int) (a b:Kn):Kn:=
 if op=0 then kadd a b else if op=1 then ksub a b else if op=4 then kor a b else if op=5 then kand a b
 else if op=6\/op=7\/op=12 then(if(bits .and .u64 b.m (w-1)==0)=true then aob op w a b else kall)
 else if op=8 then ksub (kone 0) a else if op=10 then kxor a b else if op=11 then b else kall
def jm (op w:Int) (a b:Kn):Bool:=kmay a&&(kmay b&&(decide (0<=op)&&(decide (op<=12)&&nN w)))
def kdo (op w:Int) (a b:Kn):Kn:=
 if jm op w a b=true then
  (if(bits .or .u64 (kcut a w).m (kcut b w).m==0)=true then kone (zdo op w (kcut a w).v (kcut b w).v) else kcut (kop op w (kcut a w) (kcut b w)) w)
 else kall
def C2 (w:World) (b:Nat) (x y:Value):Prop:=w.cell? ⟨b,0,none⟩=some x/\w.cell? ⟨b,1,none⟩=some y/\∀j,w.frozen? ⟨b,j,none⟩=false
def Bk (w:World) (b:Nat) (cs:Array Value) (t:TypeId):Prop:=w.heap[b]? =some (.cells cs t (0,0))
theorem Bk.lt {w:World} {b:Nat} {cs:Array Value} {t:TypeId} (h:Bk w b cs t):b<w.heap.size:=by
 rcases aX b w.heap.size with hlt | hge
 ·exact hlt
 ·rw[Bk,Array.getElem?_eq_none hge] at h;cases h
theorem Bk.ext {w w':World} {b:Nat} {cs:Array Value} {t:TypeId} (h:Bk w b cs t) (hx:Ext w w'):Bk w' b cs t:=by
 unfold Bk at h ⊢
 rw[hx.block b (Bk.lt h)];exact h
theorem Bk.cell {w:World} {b:Nat} {cs:Array Value} {t:TypeId} (h:Bk w b cs t) (j:Nat):w.cell? ⟨b,j,none⟩=cs[j]? :=cell_of_row w b j cs t (0,0) h
theorem Bk.free {w:World} {b:Nat} {cs:Array Value} {t:TypeId} (h:Bk w b cs t) (j:Nat):w.frozen? ⟨b,j,none⟩=false:=frozen_of_row w b j cs t h
theorem Bk.new {w w':World} {cs:Array Value} {t:TypeId} (hx:Ext (w.alloc (.cells cs t)) w'):Bk w' w.heap.size cs t:=Bk.ext (w:=w.alloc (.cells cs t)) (heap_alloc_new _ _) hx
theorem Bk.two {w:World} {b:Nat} {x y:Value} {t:TypeId} (h:Bk w b #[x,y] t):C2 w b x y:=⟨h.cell 0,h.cell 1,h.free⟩
theorem C2.ext {w w':World} {b:Nat} {x y:Value} (h:C2 w b x y) (hx:Ext w w'):C2 w' b x y:=
 ⟨hx.cell h.1,hx.cell h.2.1,fun j=>(Below.frozen hx (p:=⟨b,j,none⟩) (World.block_lt_of_cell? w ⟨b,0,none⟩ h.1)).trans (h.2.2 j)⟩
theorem C2.lt {w:World} {b:Nat} {x y:Value} (h:C2 w b x y):b<w.heap.size:=World.block_lt_of_cell? w ⟨b,0,none⟩ h.1
theorem C2.off1 {w:World} {b:Nat} {x y:Value} (h:C2 w b x y) (c j:Nat) (u:Value) (hne:c≠b):C2 (w.setCell ⟨c,j,none⟩ u) b x y:=by
 refine⟨(World.cell?_setCell_other w ⟨c,j,none⟩ ⟨b,0,none⟩ u (fun e=>hne (congrArg Addr.block e))).trans h.1,(World.cell?_setCell_other w ⟨c,j,none⟩ ⟨b,1,none⟩ u (fun e=>hne (congrArg Addr.block e))).trans h.2.1,fun i=> ?_⟩
 have:=h.2.2 i
 simpa[go_sem] using this
theorem C2.off {w:World} {b:Nat} {x y:Value} (h:C2 w b x y) (c:Nat) (u v:Value) (hne:c≠b):C2 ((w.setCell ⟨c,0,none⟩ u).setCell ⟨c,1,none⟩ v) b x y:=(h.off1 c 0 u hne).off1 c 1 v hne
theorem C2.put {w:World} {b:Nat} {x y:Value} (h:C2 w b x y) (u v:Value):C2 ((w.setCell ⟨b,0,none⟩ u).setCell ⟨b,1,none⟩ v) b u v:=by
 obtain⟨h0,h1,h2⟩:=h
 have e0:(w.setCell ⟨b,0,none⟩ u).cell? ⟨b,0,none⟩=some u:=World.cell?_setCell_same w ⟨b,0,none⟩ u h0
 have e1:(w.setCell ⟨b,0,none⟩ u).cell? ⟨b,1,none⟩=some y:=(World.cell?_setCell_other w ⟨b,0,none⟩ ⟨b,1,none⟩ u (by simp)).trans h1
 refine⟨(World.cell?_setCell_other _ ⟨b,1,none⟩ ⟨b,0,none⟩ v (by simp)).trans e0,World.cell?_setCell_same _ ⟨b,1,none⟩ v e1,fun i=> ?_⟩
 have:=h2 i
 simpa[go_sem] using this
theorem rO (x:Int):0<=IntKind.u64.wrap x/\IntKind.u64.wrap x<=18446744073709551615:=by rw[bf];omega
theorem qk (x y:Int):0<=bits .and .u64 x y/\bits .and .u64 x y<=18446744073709551615:=rO _
theorem mA (x y:Int):0<=bits .or .u64 x y/\bits .or .u64 x y<=18446744073709551615:=rO _
theorem vb (x y:Int):0<=bits .xor .u64 x y/\bits .xor .u64 x y<=18446744073709551615:=rO _
theorem eR (x y:Int):0<=bits .andNot .u64 x y/\bits .andNot .u64 x y<=18446744073709551615:=rO _
theorem jB:kall.wf:=by unfold Kn.wf kall;simp
theorem yD {v:Int} (h:0<=v/\v<=18446744073709551615):(kone v).wf:=⟨h,by simp[kone]⟩
theorem dx {v m:Int} (h:0<=m/\m<=18446744073709551615):(eG v m).wf:=⟨eR _ _,h⟩
theorem iR (a b:Kn):(gB a b).wf:=by unfold gB;split;exact dx (mA _ _);exact jB
theorem rT {a:Kn} (h:a.wf) (w:Int):(kcut a w).wf:=by
 unfold kcut;split
 ·exact⟨gS _ _ h.1.1 h.1.2,gS _ _ h.2.1 h.2.2⟩
 ·exact jB
theorem asM {a b:Kn} (ha:a.wf) (hb:b.wf) (op w:Int):(kop op w a b).wf:=by
 have hs:=qk b.v (w-1)
 unfold kop;repeat' split
 ·exact dx (mA _ _)
 ·exact dx (mA _ _)
 ·exact⟨mA _ _,eR _ _⟩
 ·exact⟨qk _ _,eR _ _⟩
 ·exact dx (aee _ _ _ _ ha.2.1 ha.2.2 hs.1 hs.2)
 ·exact jB
 ·exact dx (mA _ _)
 ·exact dx (mA _ _)
 ·exact hb
 ·exact jB
theorem anj {a b:Kn} (ha:a.wf) (hb:b.wf) (op w:Int):(kdo op w a b).wf:=by
 have h1:=rT ha w
 have h2:=rT hb w
 unfold kdo;repeat' split
 ·exact yD (aee _ _ _ _ h1.1.1 h1.1.2 h2.1.1 h2.1.2)
 ·exact rT (asM h1 h2 _ _) _
 ·exact jB
theorem Bk.set {w:World} {b:Nat} {cs:Array Value} {t:TypeId} (h:Bk w b cs t) (j:Nat) (v:Value):Bk (w.setCell ⟨b,j,none⟩ v) b (cs.setIfInBounds j v) t:=heap_setCell_same w b j cs t v h
theorem Bk.off {w:World} {b:Nat} {cs:Array Value} {t:TypeId} (h:Bk w b cs t) (c j:Nat) (v:Value) (hne:c≠b):Bk (w.setCell ⟨c,j,none⟩ v) b cs t:=by
 unfold Bk at h ⊢
 rw[heap_setCell_other w ⟨c,j,none⟩ b v (fun e=>hne e.symm)]
 exact h
theorem aiK:∀n:Fin 256,Go.Lib.len8 (n.val:Int)=(aE n.val:Int):=by decide +kernel
theorem ajL {n c:Nat} (h1:2 ^ c<=n) (h2:n<2 ^ (c+1)):aE n=c+1:=by
 have h3:=eP h2
 rcases aX (aE n) (c+1) with h | h
 ·have h4:=uT n
  have h5:2 ^ aE n<=2 ^ c:=Nat.pow_le_pow_right (by omega) (by omega)
  omega
 ·omega
theorem am4 {n k:Nat} (h:2 ^ k<=n):aE n=k+aE (n / 2 ^ k):=by
 have hp:0<2 ^ k:=Nat.pow_pos (by omega)
 have h0:n / 2 ^ k≠0:=by
  have:=Nat.div_pos h hp
  omega
 have h1:=ajK h0
 have h2:=uT (n / 2 ^ k)
 obtain⟨c,hc⟩:∃c,aE (n / 2 ^ k)=c+1:=by
  have:aE (n / 2 ^ k)≠0:=by
   intro h
   rw[h] at h2
   simp at h2
   omega
  exact⟨aE (n / 2 ^ k)-1,by omega⟩
 rw[hc] at h1 h2 ⊢
 have e1:2 ^ (k+c)<=n:=by
  rw[Nat.pow_add]
  have:=Nat.mul_le_mul_left (2 ^ k) h1
  have h3:=Nat.mul_div_le n (2 ^ k)
  simp only[Nat.add_sub_cancel] at this
  omega
 have e2:n<2 ^ (k+c+1):=by
  rw[Nat.add_assoc,Nat.pow_add]
  have h3:=Nat.lt_mul_div_succ n hp
  have:=Nat.mul_le_mul_left (2 ^ k) (show n / 2 ^ k+1<=2 ^ (c+1) by omega)
  omega
 rw[ajL e1 e2];omega
theorem cV {x:Int} (h0:0<=x) (h1:x<256):Go.Lib.len8 x=(aE x.toNat:Int)/\aE x.toNat<=8:=by
 have:=aiK ⟨x.toNat,by omega⟩
 have e:((x.toNat:Nat):Int)=x:=by omega
 simp only[e] at this
 exact⟨this,eP (by omega)⟩
theorem eX {i:Int} (h0:0<=i) (h1:i<256) (h2:i.toNat<Go.Lib.len8tab.size):(((Go.Lib.len8tab[i.toNat]'h2).toNat:Nat):Int)=Go.Lib.len8 i:=by
 simp only[Go.Lib.len8,ByteArray.getElem?_lt' _ _ h2,Option.getD_some]
theorem vl {x:Int} (h0:0<=x) (h1:x<256):IntKind.u8.wrap x=x:=by rw[show IntKind.u8.wrap x=x % 256 from by simp[IntKind.wrap,IntKind.bits,IntKind.signed]];omega
theorem dQ {x:Int} (k:Nat) (h0:(2:Int) ^ k<=x):aE x.toNat=k+aE (x / 2 ^ k).toNat:=by
 have e:((2:Int) ^ k)=((2 ^ k:Nat):Int):=by simp
 rw[e] at h0 ⊢
 obtain⟨n,rfl⟩:∃n:Nat,x=n:=⟨x.toNat,by have:=Nat.pow_pos (n:=k) (show 0<2 by omega);omega⟩
 rw[am4 (n:=(n:Int).toNat) (k:=k) (by omega)]
 congr 1
theorem avh (x:Int) (h0:0<=x) (h1:x<=18446744073709551615) (W w:World) (hx:Ext W w):
  Calls Tryz.prog 222 #[.int .u64 x] w fun e w'=>e=.returned (.int .i64 (aE x.toNat))/\Ext W w':=by
 obtain⟨r,hr⟩:∃r,aE x.toNat=r:=⟨_,rfl⟩
 rw[hr]
 have HR:=hide hr
 clear hr
 by_cases c0:4294967296<=x
 ·by_cases c1:65536<=(x / 4294967296)
  ·by_cases c2:256<=((x / 4294967296) / 65536)
   ·have q0:0<=(((x / 4294967296) / 65536) / 256):=by omega
    have q1:(((x / 4294967296) / 65536) / 256)<256:=by omega
    have e4:=vl q0 q1
    have E:=hide (cV q0 q1)
    have l0:=dQ (x:=x) 32 (by omega)
    simp only[Int.reducePow] at l0
    have L0:=hide l0
    clear l0
    have l1:=dQ (x:=(x / 4294967296)) 16 (by omega)
    simp only[Int.reducePow] at l1
    have L1:=hide l1
    clear l1
    have l2:=dQ (x:=((x / 4294967296) / 65536)) 8 (by omega)
    simp only[Int.reducePow] at l2
    have L2:=hide l2
    clear l2
    have hN:Hid (r=32+(16+(8+(aE (((x / 4294967296) / 65536) / 256).toNat)))):=hide (by rw[<-HR.out,L0.out,L1.out,L2.out])
    as_aux_lemma=>
     go_enter Tryz.func222,Tryz.ntmps222
     go_wp2_with fail
     all_goals
      go_ret
      refine⟨bh ?_,hx⟩
      have hm:=E.out.2
      rw[eX q0 q1,E.out.1,hN.out]
      generalize aE _=m at hm ⊢
      clear q0 q1 e4 c0 c1 c2 h0 h1
      simp only[wrap64]
      omega
   ·have q0:0<=((x / 4294967296) / 65536):=by omega
    have q1:((x / 4294967296) / 65536)<256:=by omega
    have e4:=vl q0 q1
    have E:=hide (cV q0 q1)
    have l0:=dQ (x:=x) 32 (by omega)
    simp only[Int.reducePow] at l0
    have L0:=hide l0
    clear l0
    have l1:=dQ (x:=(x / 4294967296)) 16 (by omega)
    simp only[Int.reducePow] at l1
    have L1:=hide l1
    clear l1
    have hN:Hid (r=32+(16+(aE ((x / 4294967296) / 65536).toNat))):=hide (by rw[<-HR.out,L0.out,L1.out])
    as_aux_lemma=>
     go_enter Tryz.func222,Tryz.ntmps222
     go_wp2_with fail
     all_goals
      go_ret
      refine⟨bh ?_,hx⟩
      have hm:=E.out.2
      rw[eX q0 q1,E.out.1,hN.out]
      generalize aE _=m at hm ⊢
      clear q0 q1 e4 c0 c1 c2 h0 h1
      simp only[wrap64]
      omega
  ·by_cases c2:256<=(x / 4294967296)
   ·have q0:0<=((x / 4294967296) / 256):=by omega
    have q1:((x / 4294967296) / 256)<256:=by omega
    have e4:=vl q0 q1
    have E:=hide (cV q0 q1)
    have l0:=dQ (x:=x) 32 (by omega)
    simp only[Int.reducePow] at l0
    have L0:=hide l0
    clear l0
    have l1:=dQ (x:=(x / 4294967296)) 8 (by omega)
    simp only[Int.reducePow] at l1
    have L1:=hide l1
    clear l1
    have hN:Hid (r=32+(8+(aE ((x / 4294967296) / 256).toNat))):=hide (by rw[<-HR.out,L0.out,L1.out])
    as_aux_lemma=>
     go_enter Tryz.func222,Tryz.ntmps222
     go_wp2_with fail
     all_goals
      go_ret
      refine⟨bh ?_,hx⟩
      have hm:=E.out.2
      rw[eX q0 q1,E.out.1,hN.out]
      generalize aE _=m at hm ⊢
      clear q0 q1 e4 c0 c1 c2 h0 h1
      simp only[wrap64]
      omega
   ·have q0:0<=(x / 4294967296):=by omega
    have q1:(x / 4294967296)<256:=by omega
    have e4:=vl q0 q1
    have E:=hide (cV q0 q1)
    have l0:=dQ (x:=x) 32 (by omega)
    simp only[Int.reducePow] at l0
    have L0:=hide l0
    clear l0
    have hN:Hid (r=32+(aE (x / 4294967296).toNat)):=hide (by rw[<-HR.out,L0.out])
    as_aux_lemma=>
     go_enter Tryz.func222,Tryz.ntmps222
     go_wp2_with fail
     all_goals
      go_ret
      refine⟨bh ?_,hx⟩
      have hm:=E.out.2
      rw[eX q0 q1,E.out.1,hN.out]
      generalize aE _=m at hm ⊢
      clear q0 q1 e4 c0 c1 c2 h0 h1
      simp only[wrap64]
      omega
 ·by_cases c1:65536<=x
  ·by_cases c2:256<=(x / 65536)
   ·have q0:0<=((x / 65536) / 256):=by omega
    have q1:((x / 65536) / 256)<256:=by omega
    have e4:=vl q0 q1
    have E:=hide (cV q0 q1)
    have l0:=dQ (x:=x) 16 (by omega)
    simp only[Int.reducePow] at l0
    have L0:=hide l0
    clear l0
    have l1:=dQ (x:=(x / 65536)) 8 (by omega)
    simp only[Int.reducePow] at l1
    have L1:=hide l1
    clear l1
    have hN:Hid (r=16+(8+(aE ((x / 65536) / 256).toNat))):=hide (by rw[<-HR.out,L0.out,L1.out])
    as_aux_lemma=>
     go_enter Tryz.func222,Tryz.ntmps222
     go_wp2_with fail
     all_goals
      go_ret
      refine⟨bh ?_,hx⟩
      have hm:=E.out.2
      rw[eX q0 q1,E.out.1,hN.out]
      generalize aE _=m at hm ⊢
      clear q0 q1 e4 c0 c1 c2 h0 h1
      simp only[wrap64]
      omega
   ·have q0:0<=(x / 65536):=by omega
    have q1:(x / 65536)<256:=by omega
    have e4:=vl q0 q1
    have E:=hide (cV q0 q1)
    have l0:=dQ (x:=x) 16 (by omega)
    simp only[Int.reducePow] at l0
    have L0:=hide l0
    clear l0
    have hN:Hid (r=16+(aE (x / 65536).toNat)):=hide (by rw[<-HR.out,L0.out])
    as_aux_lemma=>
     go_enter Tryz.func222,Tryz.ntmps222
     go_wp2_with fail
     all_goals
      go_ret
      refine⟨bh ?_,hx⟩
      have hm:=E.out.2
      rw[eX q0 q1,E.out.1,hN.out]
      generalize aE _=m at hm ⊢
      clear q0 q1 e4 c0 c1 c2 h0 h1
      simp only[wrap64]
      omega
  ·by_cases c2:256<=x
   ·have q0:0<=(x / 256):=by omega
    have q1:(x / 256)<256:=by omega
    have e4:=vl q0 q1
    have E:=hide (cV q0 q1)
    have l0:=dQ (x:=x) 8 (by omega)
    simp only[Int.reducePow] at l0
    have L0:=hide l0
    clear l0
    have hN:Hid (r=8+(aE (x / 256).toNat)):=hide (by rw[<-HR.out,L0.out])
    as_aux_lemma=>
     go_enter Tryz.func222,Tryz.ntmps222
     go_wp2_with fail
     all_goals
      go_ret
      refine⟨bh ?_,hx⟩
      have hm:=E.out.2
      rw[eX q0 q1,E.out.1,hN.out]
      generalize aE _=m at hm ⊢
      clear q0 q1 e4 c0 c1 c2 h0 h1
      simp only[wrap64]
      omega
   ·have q0:0<=x:=by omega
    have q1:x<256:=by omega
    have e4:=vl q0 q1
    have E:=hide (cV q0 q1)
    have hN:Hid (r=aE x.toNat):=hide (by rw[<-HR.out])
    as_aux_lemma=>
     go_enter Tryz.func222,Tryz.ntmps222
     go_wp2_with fail
     all_goals
      go_ret
      refine⟨bh ?_,hx⟩
      have hm:=E.out.2
      rw[eX q0 q1,E.out.1,hN.out]
      generalize aE _=m at hm ⊢
      clear q0 q1 e4 c0 c1 c2 h0 h1
      simp only[wrap64]
      omega
theorem b_lz (x:Int) (h0:0<=x) (h1:x<=18446744073709551615) (W w:World) (hx:Ext W w):
  Calls Tryz.prog 224 #[.int .u64 x] w fun e w'=>e=.returned (.int .i64 (64-aE x.toNat))/\Ext W w':=by
 have hb:aE x.toNat<=64:=eP (by omega)
 obtain⟨r,hr⟩:∃r,aE x.toNat=r:=⟨_,rfl⟩
 have HR:=hide hr
 rw[hr] at hb ⊢
 clear hr
 go_enter Tryz.func224,Tryz.ntmps224
 go_wp2_with (first
  | (go_at_call 222;(with_reducible refine(avh x h0 h1 W _ (by assumption)).mono ?_);rintro e w' ⟨rfl,hx'⟩;rw[HR.out])
  | fail)
 go_ret
 refine⟨bh ?_,by assumption⟩
 all_goals (first | (simp only[wrap64];done) | (simp only[wrap64];omega) | omega)
def okop (op l:Int):Bool:=(decide (0<=op)&&decide (op<=12))&&nN l
theorem rY {x:Int} (h:0<=x/\x<=18446744073709551615):inK .u64 x=true:=by
 rw[bz];simpa[IntKind.min,IntKind.max,IntKind.signed,IntKind.bits] using h
theorem ai6 {x:Int} (h : -9223372036854775808<=x/\x<=9223372036854775807):inK .i64 x=true:=by
 rw[bz];simpa[IntKind.min,IntKind.max,IntKind.signed,IntKind.bits] using h
def tys_XbC:List (Nat×TI):=[(2,tiq2),
 (42,fF),
 (44,gO)]
theorem ae5:(tys_XbC.all fun p=>ckTI Tryz.prog p.1 p.2)=true:=by kernel_rfl
theorem vt:(tys_XbC.all fun p=>!p.2.eqok)=true:=by kernel_rfl
theorem aeJ:(tys_XbC.all fun p=>!p.2.keyok)=true:=by kernel_rfl
theorem aeD:∀t i,(t,i)∈tys_XbC->TIok Tryz.prog t i:=by
 intro t i h
 refine bB (cz (f:=ckTI Tryz.prog) ae5 h) (fun he=> ?_) (fun he=> ?_) (fun he=> ?_)
 ·have h1:=thm7.1 vt (t,i) h
  simp[he] at h1
 ·have h1:=thm7.1 vt (t,i) h
  simp[he] at h1
 ·have h1:=thm7.1 aeJ (t,i) h
  simp[he] at h1
def kH (key:Nat):Sm:=⟨242,key,[.one (.int .u64),.one (.int .u64),.one (.lit .u64 0)],[.one (.int .u64),.one (.int .u64)],true⟩
def kB (x:Int) (y:Int):List Dt:=[.z ((x+y) % 18446744073709551616),.z ((x+y) / 18446744073709551616)]
def iX:List Dt->List Dt
 | [.z x0,.z x1]=>kB x0 x1
 | _=>[]
theorem aln (x:Int) (hx:inK .u64 x=true) (y:Int) (hy:inK .u64 y=true):(∀w,(callFunc 242 #[.int .u64 x,.int .u64 y,.int .u64 0]).run Tryz.prog w=.ok (.value (.tuple #[.int .u64 ((x+y) % 18446744073709551616),.int .u64 ((x+y) / 18446744073709551616)])) w)/\jC (.tuple #[.int .u64 ((x+y) % 18446744073709551616),.int .u64 ((x+y) / 18446744073709551616)])=true:=by
 have gx:=cR hx
 have gy:=cR hy
 refine⟨fun w=> ?_,?_⟩
 ·rw[run_callFunc_extern Tryz.func242 (by kernel_rfl) (by kernel_rfl) (by kernel_rfl) (e:=add64Entry) (by kernel_rfl),run_add64 x y 0 gx.1 gy.1 (by omega) (by omega)]
  simp only[Result.andThen,Int.add_zero]
 ·have h1:inK .u64 ((x+y) % 18446744073709551616)=true:=rY (by omega)
  have h2:inK .u64 ((x+y) / 18446744073709551616)=true:=rY (by omega)
  simp[jC,iD,iO,h1,h2]
theorem amj {sp:Spec} {key:Nat} (hF:sp.F key=iX):SmOk Tryz.prog sp (kH key):=by
 refine SmOk.pure hF rfl rfl fun xs vals w h=> ?_
 obtain⟨_,_,_,rfl,⟨x0,rfl,rfl,gx0⟩,h⟩:=h
 obtain⟨_,_,_,rfl,⟨x1,rfl,rfl,gx1⟩,h⟩:=h
 obtain⟨_,_,_,rfl,⟨rfl,rfl⟩,h⟩:=h
 obtain⟨rfl,rfl⟩:=h
 have q:=aln x0 gx0 x1 gx1
 refine⟨_,.inl (q.1 w),?_,fun U v0 nid j he=> ?_⟩
 ·have q2:=q.2
  simp[jC,iD,iO] at q2
  simp[kH,iX,kB,List.flatMap_cons,List.flatMap_nil,Sh.cks,List.append_nil,List.cons_append,List.nil_append,b2i_one,fQ,q2]
 ·simp only[kH,iX,kB,List.flatMap_cons,List.flatMap_nil,Sh.cks,List.append_nil,List.cons_append,List.nil_append,b2i_one,eqs,dI,dB,bT,nm,bt,Nat.add_zero,Nat.reduceAdd,and_true] at he
  simp[kH,iX,kB,List.flatMap_cons,List.flatMap_nil,Sh.cks,List.append_nil,List.cons_append,List.nil_append,b2i_one,fP,bo,aH,V.den,C.den,denL,den0,bN,E.I,E.B,he]
def wU (key:Nat):Sm:=⟨222,key,[.one (.int .u64)],[.one (.int .i64)],false⟩
def wD (x:Int):List Dt:=[.z ((aE x.toNat:Int))]
def qS:List Dt->List Dt
 | [.z x0]=>wD x0
 | _=>[]
theorem atj (x:Int) (hx:inK .u64 x=true):(∀w,Calls Tryz.prog 222 #[.int .u64 x] w fun e w'=>e=.returned (.int .i64 ((aE x.toNat:Int)))/\Ext w w')/\jC (.int .i64 ((aE x.toNat:Int)))=true:=by
 have g:=cR hx
 have hb:aE x.toNat<=64:=eP (by omega)
 have h:inK .i64 (aE x.toNat:Int)=true:=ai6 (by omega)
 exact⟨fun w=>avh x g.1 g.2 w w (Ext.refl w),h⟩
theorem at7 {sp:Spec} {key:Nat} (hF:sp.F key=qS):SmOk Tryz.prog sp (wU key):=by
 refine SmOk.pure hF rfl rfl fun xs vals w h=> ?_
 obtain⟨_,_,_,rfl,⟨x0,rfl,rfl,gx0⟩,h⟩:=h
 obtain⟨rfl,rfl⟩:=h
 have q:=atj x0 gx0
 refine⟨_,.inr ⟨dG Tryz.func222 (by kernel_rfl) (by kernel_rfl) _ w,q.1 w⟩,?_,fun U v0 nid j he=> ?_⟩
 ·have q2:=q.2
  simp[jC,iD,iO] at q2
  simp[wU,qS,wD,List.flatMap_cons,List.flatMap_nil,Sh.cks,List.append_nil,List.cons_append,List.nil_append,b2i_one,fQ,q2]
 ·simp only[wU,qS,wD,List.flatMap_cons,List.flatMap_nil,Sh.cks,List.append_nil,List.cons_append,List.nil_append,b2i_one,eqs,dI,dB,bT,nm,bt,Nat.add_zero,Nat.reduceAdd,and_true] at he
  simp[wU,qS,wD,List.flatMap_cons,List.flatMap_nil,Sh.cks,List.append_nil,List.cons_append,List.nil_append,b2i_one,fP,bo,aH,V.den,C.den,denL,den0,bN,E.I,E.B,he]
def adh (key:Nat):Sm:=⟨224,key,[.one (.int .u64)],[.one (.int .i64)],false⟩
def adf (x:Int):List Dt:=[.z (64-(aE x.toNat:Int))]
def xh:List Dt->List Dt
 | [.z x0]=>adf x0
 | _=>[]
theorem avF (x:Int) (hx:inK .u64 x=true):(∀w,Calls Tryz.prog 224 #[.int .u64 x] w fun e w'=>e=.returned (.int .i64 (64-(aE x.toNat:Int)))/\Ext w w')/\jC (.int .i64 (64-(aE x.toNat:Int)))=true:=by
 have g:=cR hx
 have hb:aE x.toNat<=64:=eP (by omega)
 have h:inK .i64 (64-(aE x.toNat:Int))=true:=ai6 (by omega)
 exact⟨fun w=>b_lz x g.1 g.2 w w (Ext.refl w),h⟩
theorem at6 {sp:Spec} {key:Nat} (hF:sp.F key=xh):SmOk Tryz.prog sp (adh key):=by
 refine SmOk.pure hF rfl rfl fun xs vals w h=> ?_
 obtain⟨_,_,_,rfl,⟨x0,rfl,rfl,gx0⟩,h⟩:=h
 obtain⟨rfl,rfl⟩:=h
 have q:=avF x0 gx0
 refine⟨_,.inr ⟨dG Tryz.func224 (by kernel_rfl) (by kernel_rfl) _ w,q.1 w⟩,?_,fun U v0 nid j he=> ?_⟩
 ·have q2:=q.2
  simp[jC,iD,iO] at q2
  simp[adh,xh,adf,List.flatMap_cons,List.flatMap_nil,Sh.cks,List.append_nil,List.cons_append,List.nil_append,b2i_one,fQ,q2]
 ·simp only[adh,xh,adf,List.flatMap_cons,List.flatMap_nil,Sh.cks,List.append_nil,List.cons_append,List.nil_append,b2i_one,eqs,dI,dB,bT,nm,bt,Nat.add_zero,Nat.reduceAdd,and_true] at he
  simp[adh,xh,adf,List.flatMap_cons,List.flatMap_nil,Sh.cks,List.append_nil,List.cons_append,List.nil_append,b2i_one,fP,bo,aH,V.den,C.den,denL,den0,bN,E.I,E.B,he]
def ahv (key:Nat):Sm:=⟨223,key,[.agg kRg,.agg kRg,.one .bool],[.agg kRg],false⟩
def agp (a:Rg) (b:Rg) (t:Bool):List Dt:=[.z ((xsum t a b).ul),.z ((xsum t a b).uh),.z ((xsum t a b).sl),.z ((xsum t a b).sh)]
def xf:List Dt->List Dt
 | [.z x0,.z x1,.z x2,.z x3,.z x4,.z x5,.z x6,.z x7,.z x8]=>agp ⟨x0,x1,x2,x3⟩ ⟨x4,x5,x6,x7⟩ (x8==1)
 | _=>[]
def zsh5:Tr:=(.leaf (.cons (.bin .add .u64 (.var 0) (.var 4)) (.cons (.var 13) (.vs 11 2 .nil))))
def zsh4:Tr:=(.leaf (.cons (.bin .sub .u64 (.var 0) (.var 5)) (.cons (.bin .sub .u64 (.var 1) (.var 4)) (.vs 11 2 .nil))))
def sT_sum:Tr:=
(.call 0 (kRg) .nil 9
(.br (.bw 8)
(.br (.lt (.var 0) (.var 5))
(.call 3 [.int .i64,.bool] (.cons (.var 2) (.cons (.var 7) .nil)) 13
(.call 3 [.int .i64,.bool] (.cons (.var 3) (.cons (.var 6) .nil)) 15
(.br (.bw 14)
(.br (.bw 16)
(.leaf (.vs 9 2 (.cons (.var 13) (.cons (.var 15) .nil))))
(.leaf (.vs 9 4 .nil)))
(.leaf (.vs 9 4 .nil)))))
(.call 3 [.int .i64,.bool] (.cons (.var 2) (.cons (.var 7) .nil)) 13
(.call 3 [.int .i64,.bool] (.cons (.var 3) (.cons (.var 6) .nil)) 15
(.br (.bw 14)
(.br (.bw 16)
(.leaf (.cons (.bin .sub .u64 (.var 0) (.var 5)) (.cons (.bin .sub .u64 (.var 1) (.var 4)) (.cons (.var 13) (.cons (.var 15) .nil)))))
 zsh4)
 zsh4))))
(.call 1 [.int .u64,.int .u64] (.cons (.var 1) (.cons (.var 5) .nil)) 13
(.br (.eq (.var 14) (.lit 0))
(.call 2 [.int .i64,.bool] (.cons (.var 2) (.cons (.var 6) .nil)) 15
(.call 2 [.int .i64,.bool] (.cons (.var 3) (.cons (.var 7) .nil)) 17
(.br (.bw 16)
(.br (.bw 18)
(.leaf (.cons (.bin .add .u64 (.var 0) (.var 4)) (.cons (.var 13) (.cons (.var 15) (.cons (.var 17) .nil)))))
 zsh5)
 zsh5)))
(.call 2 [.int .i64,.bool] (.cons (.var 2) (.cons (.var 6) .nil)) 15
(.call 2 [.int .i64,.bool] (.cons (.var 3) (.cons (.var 7) .nil)) 17
(.br (.bw 16)
(.br (.bw 18)
(.leaf (.vs 9 2 (.cons (.var 15) (.cons (.var 17) .nil))))
(.leaf (.vs 9 4 .nil)))
(.leaf (.vs 9 4 .nil)))))))))
def anK:Spec:={F:=fun k=>match k with | 0=>bF | 1=>iX | 2=>pi | 3=>kX | _=>fun _=>[],pre:=fun _ _=>True}
theorem atC:ap tys_XbC [eu 0,kH 1,zv 2,tU 3] [] [] [] 200 Tryz.f223 [.agg kRg,.agg kRg,.one .bool] [.agg kRg] false [.int .u64,.int .u64,.int .i64,.int .i64,.int .u64,.int .u64,.int .i64,.int .i64,.bool] sT_sum:=⟨by kernel_rfl,by kernel_rfl,by kernel_rfl⟩
theorem atd (a:Rg) (ha:Rg.ok a) (b:Rg) (hb:Rg.ok b) (t:Bool) (U:Env) (g:varsD U 0 [.int .u64,.int .u64,.int .i64,.int .i64,.int .u64,.int .u64,.int .i64,.int .i64,.bool]=[.z a.ul,.z a.uh,.z a.sl,.z a.sh,.z b.ul,.z b.uh,.z b.sl,.z b.sh,.z (b2i t)]):sT_sum.asks anK (fun U e=>e.D U=xf [.z a.ul,.z a.uh,.z a.sl,.z a.sh,.z b.ul,.z b.uh,.z b.sl,.z b.sh,.z (b2i t)]) U fun _ _=>False:=by
 simp only[varsD,varD,thm5,gS0,Nat.reduceAdd,and_true] at g
 simp only[sT_sum,zsh4,zsh5,anK,kRg,bF,iX,pi,kX,kB,yZ,sW,xf,agp,simQ,ai,S1,Nat.reduceSub,Nat.reduceAdd,-eq_self,aa,g]
 intro e;(try simp only[e,aa,-eq_self]);clear e
 constructor<;>intro c0
 constructor<;>intro c1
 intro e;(try simp only[e,aa,-eq_self]);clear e
 intro e;(try simp only[e,aa,-eq_self]);clear e
 constructor<;>intro c2
 constructor<;>intro c3
 ·(subst c0;exact agg4 (rC c1).1 (rC c1).2 (acK c2 c3).1 (acK c2 c3).2)
 ·(subst c0;exact agg4 (rC c1).1 (rC c1).2 (nh (.inr c3)).1 (nh (.inr c3)).2)
 ·(subst c0;exact agg4 (rC c1).1 (rC c1).2 (nh (.inl c2)).1 (nh (.inl c2)).2)
 intro e;(try simp only[e,aa,-eq_self]);clear e
 intro e;(try simp only[e,aa,-eq_self]);clear e
 constructor<;>intro c4
 constructor<;>intro c5
 ·(subst c0;exact agg4 (rA c1).1 (rA c1).2 (acK c4 c5).1 (acK c4 c5).2)
 ·(subst c0;exact agg4 (rA c1).1 (rA c1).2 (nh (.inr c5)).1 (nh (.inr c5)).2)
 ·(subst c0;exact agg4 (rA c1).1 (rA c1).2 (nh (.inl c4)).1 (nh (.inl c4)).2)
 intro e;(try simp only[e,aa,-eq_self]);clear e
 constructor<;>intro c6
 intro e;(try simp only[e,aa,-eq_self]);clear e
 intro e;(try simp only[e,aa,-eq_self]);clear e
 constructor<;>intro c7
 constructor<;>intro c8
 ·(subst c0;exact agg4 (qE ha hb c6).1 (qE ha hb c6).2 (aaT c7 c8).1 (aaT c7 c8).2)
 ·(subst c0;exact agg4 (qE ha hb c6).1 (qE ha hb c6).2 (mN (.inr c8)).1 (mN (.inr c8)).2)
 ·(subst c0;exact agg4 (qE ha hb c6).1 (qE ha hb c6).2 (mN (.inl c7)).1 (mN (.inl c7)).2)
 intro e;(try simp only[e,aa,-eq_self]);clear e
 intro e;(try simp only[e,aa,-eq_self]);clear e
 constructor<;>intro c9
 constructor<;>intro c10
 ·(subst c0;exact agg4 (qF ha hb c6).1 (qF ha hb c6).2 (aaT c9 c10).1 (aaT c9 c10).2)
 ·(subst c0;exact agg4 (qF ha hb c6).1 (qF ha hb c6).2 (mN (.inr c10)).1 (mN (.inr c10)).2)
 ·(subst c0;exact agg4 (qF ha hb c6).1 (qF ha hb c6).2 (mN (.inl c9)).1 (mN (.inl c9)).2)
theorem at4 {sp:Spec} {key:Nat} (hF:sp.F key=xf) (hP:sp.pre key=fun _=>True:=by rfl):SmOk Tryz.prog sp (ahv key):=
 aq (s:=ahv key) hF hP mxo6 aeD (smc (fK rfl) (smc (amj rfl) (smc (ars rfl) (smc (amc rfl) sm0)))) Tryz.func223 fn0 atC (.inl rfl) (fun x0 gx0 x1 gx1 x2 gx2 x3 gx3 x4 gx4 x5 gx5 x6 gx6 x7 gx7 x8 hp U g=>atd ⟨x0,x1,x2,x3⟩ ⟨gx0,gx1,gx2,gx3⟩ ⟨x4,x5,x6,x7⟩ ⟨gx4,gx5,gx6,gx7⟩ x8 U g)
def tys_XbD:List (Nat×TI):=[(2,tiq2),
 (3,tiq3),
 (37,gP),
 (42,fF),
 (44,gO),
 (105,vP)]
theorem ae4:(tys_XbD.all fun p=>ckTI Tryz.prog p.1 p.2)=true:=by kernel_rfl
theorem vr:(tys_XbD.all fun p=>!p.2.eqok)=true:=by kernel_rfl
theorem aeI:(tys_XbD.all fun p=>!p.2.keyok)=true:=by kernel_rfl
theorem aeC:∀t i,(t,i)∈tys_XbD->TIok Tryz.prog t i:=by
 intro t i h
 refine bB (cz (f:=ckTI Tryz.prog) ae4 h) (fun he=> ?_) (fun he=> ?_) (fun he=> ?_)
 ·have h1:=thm7.1 vr (t,i) h
  simp[he] at h1
 ·have h1:=thm7.1 vr (t,i) h
  simp[he] at h1
 ·have h1:=thm7.1 aeI (t,i) h
  simp[he] at h1
def alW (key:Nat):Sm:=⟨188,key,[.one (.int .i8),.agg kRg,.agg kRg],[.agg kRg],false⟩
def alq (op:Int) (a:Rg) (b:Rg):List Dt:=[.z ((bdo op a b).ul),.z ((bdo op a b).uh),.z ((bdo op a b).sl),.z ((bdo op a b).sh)]
def zI:List Dt->List Dt
 | [.z x0,.z x1,.z x2,.z x3,.z x4,.z x5,.z x6,.z x7,.z x8]=>alq x0 ⟨x1,x2,x3,x4⟩ ⟨x5,x6,x7,x8⟩
 | _=>[]
def zsh9:Tr:=(.call 6 (kRg) (.vs 11 4 .nil) 18
(.leaf (.vs 18 4 .nil)))
def zsh8:E:=(.cons (.bin .sub .u64 (.bin .shl .u64 (.lit 1) (.var 17)) (.lit 1)) (.vs 13 2 .nil))
def zsh7:Tr:=(.call 6 (kRg) (.cons (.var 11) (.cons (.var 2) (.vs 13 2 .nil))) 18
(.leaf (.vs 18 4 .nil)))
def zsh6:Tr:=(.call 5 (kRg) (.vs 1 8 (.cb (.eq (.var 0) (.lit 1)) .nil)) 18
(.call 6 (kRg) (.vs 18 4 .nil) 22
(.leaf (.vs 22 4 .nil))))
def sT_do:Tr:=
(.call 0 [.bool] (.vs 1 4 .nil) 9
(.br (.bw 9)
(.call 0 [.bool] (.vs 5 4 .nil) 10
(.br (.bw 10)
(.call 1 (kRg) .nil 11
(.call 2 [.int .u64,.bool] (.vs 5 4 .nil) 15
(.call 3 [.int .i64] (.cons (.mx (.var 2) (.var 6)) .nil) 17
(.br (.lt (.var 17) (.lit 0))
.panic
(.br (.eq (.var 0) (.lit 11))
(.call 6 (kRg) (.vs 5 4 .nil) 18
(.leaf (.vs 18 4 .nil)))
(.br (.eq (.var 0) (.lit 0))
 zsh6
(.br (.eq (.var 0) (.lit 1))
 zsh6
(.br (.eq (.var 0) (.lit 5))
(.call 6 (kRg) (.cons (.var 11) (.cons (.mn (.var 2) (.var 6)) (.vs 13 2 .nil))) 18
(.leaf (.vs 18 4 .nil)))
(.br (.eq (.var 0) (.lit 4))
(.call 6 (kRg) (.cons (.mx (.var 1) (.var 5)) zsh8) 18
(.leaf (.vs 18 4 .nil)))
(.br (.eq (.var 0) (.lit 10))
(.call 6 (kRg) (.cons (.var 11) zsh8) 18
(.leaf (.vs 18 4 .nil)))
(.br (.eq (.var 0) (.lit 3))
(.br (.lt (.lit 0) (.var 5))
(.br (.eq (.var 6) (.lit 0))
.panic
(.br (.eq (.var 5) (.lit 0))
.panic
(.call 6 (kRg) (.cons (.bin .quo .u64 (.var 1) (.var 6)) (.cons (.bin .quo .u64 (.var 2) (.var 5)) (.vs 13 2 .nil))) 18
(.leaf (.vs 18 4 .nil)))))
 zsh7)
(.br (.eq (.var 0) (.lit 9))
(.br (.lt (.lit 0) (.var 5))
(.call 6 (kRg) (.cons (.var 11) (.cons (.mn (.var 2) (.bin .sub .u64 (.var 6) (.lit 1))) (.vs 13 2 .nil))) 18
(.leaf (.vs 18 4 .nil)))
 zsh7)
(.br (.eq (.var 0) (.lit 7))
(.br (.bw 16)
(.call 6 (kRg) (.cons (.bin .shr .u64 (.var 1) (.bin .and .u64 (.var 15) (.lit 63))) (.cons (.bin .shr .u64 (.var 2) (.bin .and .u64 (.var 15) (.lit 63))) (.vs 13 2 .nil))) 18
(.leaf (.vs 18 4 .nil)))
 zsh9)
(.br (.eq (.var 0) (.lit 6))
(.br (.bw 16)
(.call 4 [.int .i64] (.cons (.var 2) .nil) 18
(.br (.lt (.var 18) (.conv .i64 (.bin .and .u64 (.var 15) (.lit 63))))
(.call 6 (kRg) (.vs 11 4 .nil) 19
(.leaf (.vs 19 4 .nil)))
(.call 6 (kRg) (.cons (.bin .shl .u64 (.var 1) (.bin .and .u64 (.var 15) (.lit 63))) (.cons (.bin .shl .u64 (.var 2) (.bin .and .u64 (.var 15) (.lit 63))) (.vs 13 2 .nil))) 19
(.leaf (.vs 19 4 .nil)))))
 zsh9)
 zsh9))))))))))))))
(.call 1 (kRg) .nil 11
(.leaf (.vs 11 4 .nil)))))
(.call 1 (kRg) .nil 10
(.leaf (.vs 10 4 .nil)))))
def atV:Spec:={F:=fun k=>match k with | 0=>cE | 1=>bF | 2=>dd | 3=>qS | 4=>xh | 5=>xf | 6=>jM | _=>fun _=>[],pre:=fun _ _=>True}
theorem avL:ap tys_XbD [hZ 0,eu 1,hJ 2,wU 3,adh 4,ahv 5,tT 6] [] [] [] 200 Tryz.f188 [.one (.int .i8),.agg kRg,.agg kRg] [.agg kRg] false [.int .i8,.int .u64,.int .u64,.int .i64,.int .i64,.int .u64,.int .u64,.int .i64,.int .i64] sT_do:=⟨by kernel_rfl,by kernel_rfl,by kernel_rfl⟩
theorem avH (op:Int) (hop:inK .i8 op=true) (a:Rg) (ha:Rg.ok a) (b:Rg) (hb:Rg.ok b) (U:Env) (g:varsD U 0 [.int .i8,.int .u64,.int .u64,.int .i64,.int .i64,.int .u64,.int .u64,.int .i64,.int .i64]=[.z op,.z a.ul,.z a.uh,.z a.sl,.z a.sh,.z b.ul,.z b.uh,.z b.sl,.z b.sh]):sT_do.asks atV (fun U e=>e.D U=zI [.z op,.z a.ul,.z a.uh,.z a.sl,.z a.sh,.z b.ul,.z b.uh,.z b.sl,.z b.sh]) U fun _ _=>False:=by
 simp only[varsD,varD,thm5,gS0,Nat.reduceAdd,and_true] at g
 simp only[sT_do,zsh6,zsh7,zsh8,zsh9,atV,kRg,cE,bF,dd,qS,xh,xf,jM,gY,gX,wD,adf,agp,sV,zI,alq,simQ,ai,S1,Nat.reduceSub,Nat.reduceAdd,-eq_self,aa,g]
 intro e;(try simp only[e,aa,-eq_self]);clear e
 constructor<;>intro c0
 intro e;(try simp only[e,aa,-eq_self]);clear e
 constructor<;>intro c1
 intro e;(try simp only[e,aa,-eq_self]);clear e
 intro e;(try simp only[e,aa,-eq_self]);clear e
 intro e;(try simp only[e,aa,-eq_self]);clear e
 constructor<;>intro c2
 ·exact absurd (thm3 c2) (by omega)
 constructor<;>intro c3
 intro e;(try simp only[e,aa,-eq_self]);clear e
 ·exact dn (awB ha hb c0 c1 c3)
 constructor<;>intro c4
 intro e;(try simp only[e,aa,-eq_self]);clear e
 intro e;(try simp only[e,aa,-eq_self]);clear e
 ·exact dn (dq_0 ha hb c0 c1 c4)
 constructor<;>intro c5
 intro e;(try simp only[e,aa,-eq_self]);clear e
 intro e;(try simp only[e,aa,-eq_self]);clear e
 ·exact dn (dq_1 ha hb c0 c1 c5)
 constructor<;>intro c6
 intro e;(try simp only[e,aa,-eq_self]);clear e
 ·exact dn (dq_5 ha hb c0 c1 c6)
 constructor<;>intro c7
 intro e;(try simp only[e,aa,-eq_self]);clear e
 ·exact dn (dq_4 ha hb c0 c1 c7)
 constructor<;>intro c8
 intro e;(try simp only[e,aa,-eq_self]);clear e
 ·exact dn (awC ha hb c0 c1 c8)
 constructor<;>intro c9
 constructor<;>intro c10
 constructor<;>intro c11
 ·(have hm:=(ce b).1 c1;have h1:=thm3 c10;have h2:=eqz c11;omega)
 constructor<;>intro c12
 ·(have hm:=(ce b).1 c1;have h1:=thm3 c10;have h2:=eqz c12;omega)
 intro e;(try simp only[e,aa,-eq_self]);clear e
 ·exact dn (dq_3 ha hb c0 c1 c9 c10)
 intro e;(try simp only[e,aa,-eq_self]);clear e
 ·exact dn (awA ha hb c0 c1 c9 c10)
 constructor<;>intro c13
 constructor<;>intro c14
 intro e;(try simp only[e,aa,-eq_self]);clear e
 ·exact dn (dq_9 ha hb c0 c1 c13 c14)
 intro e;(try simp only[e,aa,-eq_self]);clear e
 ·exact dn (aww ha hb c0 c1 c13 c14)
 constructor<;>intro c15
 constructor<;>intro c16
 intro e;(try simp only[e,aa,-eq_self]);clear e
 ·exact dn (dq_7 ha hb c0 c1 c15 c16)
 intro e;(try simp only[e,aa,-eq_self]);clear e
 ·exact dn (awx ha hb c0 c1 c15 c16)
 constructor<;>intro c17
 constructor<;>intro c18
 intro e;(try simp only[e,aa,-eq_self]);clear e
 constructor<;>intro c19
 intro e;(try simp only[e,aa,-eq_self]);clear e
 ·exact dn (awy ha hb c0 c1 c17 c18 c19)
 intro e;(try simp only[e,aa,-eq_self]);clear e
 ·exact dn (dq_6 ha hb c0 c1 c17 c18 c19)
 intro e;(try simp only[e,aa,-eq_self]);clear e
 ·exact dn (awz ha hb c0 c1 c17 c18)
 intro e;(try simp only[e,aa,-eq_self]);clear e
 ·exact dn (dq_x ha hb c0 c1 c3 c4 c5 c6 c7 c8 c9 c13 c15 c17)
 intro e;(try simp only[e,aa,-eq_self]);clear e
 ·exact dn (aou (.inr c1))
 intro e;(try simp only[e,aa,-eq_self]);clear e
 ·exact dn (aou (.inl c0))
theorem aue {sp:Spec} {key:Nat} (hF:sp.F key=zI) (hP:sp.pre key=fun _=>True:=by rfl):SmOk Tryz.prog sp (alW key):=
 aq (s:=alW key) hF hP mxo6 aeC (smc (kI rfl) (smc (fK rfl) (smc (oV rfl) (smc (at7 rfl) (smc (at6 rfl) (smc (at4 rfl) (smc (ahT rfl) sm0))))))) Tryz.func188 fn0 avL (.inl rfl) (fun x0 gx0 x1 gx1 x2 gx2 x3 gx3 x4 gx4 x5 gx5 x6 gx6 x7 gx7 x8 gx8 hp U g=>avH x0 gx0 ⟨x1,x2,x3,x4⟩ ⟨gx1,gx2,gx3,gx4⟩ ⟨x5,x6,x7,x8⟩ ⟨gx5,gx6,gx7,gx8⟩ U g)
section
variable {a b:Rg} (ha:a.ok) (hb:b.ok)
include ha hb
theorem awc (h:(!(((2:Int)==2)&&(b.ul==18446744073709551615)))=false):bcan 2 a b=false:=by
 have h2:b.ul=18446744073709551615:=by simpa using h
 simp[bcan,h2]
theorem awk (h:(!(((2:Int)==2)&&(b.ul==18446744073709551615)))=true):bcan 2 a b=true:=by
 have h2:b.ul≠18446744073709551615:=by simpa using h
 simp[bcan,h2]
theorem av7 (h:(!(((2:Int)==2)&&(b.ul==18446744073709551615)))=true):(⟨if((2:Int)==2)=true/\(b.ul==18446744073709551615)=true then a.ul else max a.ul (if((2:Int)==2)=true then IntKind.u64.wrap (b.ul+1) else b.ul),a.uh,a.sl,a.sh⟩:Rg)=brng 2 a b:=by
 have h2:b.ul≠18446744073709551615:=by simpa using h
 have wa:=Rg.wf_of ha
 have wb:=Rg.wf_of hb
 obtain⟨⟨a0,a1⟩,⟨a2,a3⟩,⟨a4,a5⟩,a6,a7⟩:=wa
 obtain⟨⟨b0,b1⟩,⟨b2,b3⟩,⟨b4,b5⟩,b6,b7⟩:=wb
 have h3:IntKind.u64.wrap (b.ul+1)=b.ul+1:=by rw[bf];omega
 simp[brng,Rg.ext_iff,h2,h3]
theorem awj (h:(!(((3:Int)==2)&&(b.ul==18446744073709551615)))=true):bcan 3 a b=true:=by simp[bcan]
theorem av6 (h:(!(((3:Int)==2)&&(b.ul==18446744073709551615)))=true):(⟨if((3:Int)==2)=true/\(b.ul==18446744073709551615)=true then a.ul else max a.ul (if((3:Int)==2)=true then IntKind.u64.wrap (b.ul+1) else b.ul),a.uh,a.sl,a.sh⟩:Rg)=brng 3 a b:=by simp[brng,Rg.ext_iff]
theorem awb (h:(!(((4:Int)==4)&&(b.uh==0)))=false):bcan 4 a b=false:=by
 have h2:b.uh=0:=by simpa using h
 simp[bcan,h2]
theorem awi (h:(!(((4:Int)==4)&&(b.uh==0)))=true):bcan 4 a b=true:=by
 have h2:b.uh≠0:=by simpa using h
 simp[bcan,h2]
theorem av5 (h:(!(((4:Int)==4)&&(b.uh==0)))=true):(⟨a.ul,if((4:Int)==4)=true/\(b.uh==0)=true then a.uh else min a.uh (if((4:Int)==4)=true then IntKind.u64.wrap (b.uh-1) else b.uh),a.sl,a.sh⟩:Rg)=brng 4 a b:=by
 have h2:b.uh≠0:=by simpa using h
 have wa:=Rg.wf_of ha
 have wb:=Rg.wf_of hb
 obtain⟨⟨a0,a1⟩,⟨a2,a3⟩,⟨a4,a5⟩,a6,a7⟩:=wa
 obtain⟨⟨b0,b1⟩,⟨b2,b3⟩,⟨b4,b5⟩,b6,b7⟩:=wb
 have h3:IntKind.u64.wrap (b.uh-1)=b.uh-1:=by rw[bf];omega
 simp[brng,Rg.ext_iff,h2,h3]
theorem awh (h:(!(((5:Int)==4)&&(b.uh==0)))=true):bcan 5 a b=true:=by simp[bcan]
theorem av4 (h:(!(((5:Int)==4)&&(b.uh==0)))=true):(⟨a.ul,if((5:Int)==4)=true/\(b.uh==0)=true then a.uh else min a.uh (if((5:Int)==4)=true then IntKind.u64.wrap (b.uh-1) else b.uh),a.sl,a.sh⟩:Rg)=brng 5 a b:=by simp[brng,Rg.ext_iff]
theorem awa (h:(!(((6:Int)==6)&&(b.sl==9223372036854775807)))=false):bcan 6 a b=false:=by
 have h2:b.sl=9223372036854775807:=by simpa using h
 simp[bcan,h2]
theorem awg (h:(!(((6:Int)==6)&&(b.sl==9223372036854775807)))=true):bcan 6 a b=true:=by
 have h2:b.sl≠9223372036854775807:=by simpa using h
 simp[bcan,h2]
theorem av3 (h:(!(((6:Int)==6)&&(b.sl==9223372036854775807)))=true):(⟨a.ul,a.uh,if((6:Int)==6)=true/\(b.sl==9223372036854775807)=true then a.sl else max a.sl (if((6:Int)==6)=true then IntKind.i64.wrap (b.sl+1) else b.sl),a.sh⟩:Rg)=brng 6 a b:=by
 have h2:b.sl≠9223372036854775807:=by simpa using h
 have wa:=Rg.wf_of ha
 have wb:=Rg.wf_of hb
 obtain⟨⟨a0,a1⟩,⟨a2,a3⟩,⟨a4,a5⟩,a6,a7⟩:=wa
 obtain⟨⟨b0,b1⟩,⟨b2,b3⟩,⟨b4,b5⟩,b6,b7⟩:=wb
 have h3:IntKind.i64.wrap (b.sl+1)=b.sl+1:=by rw[aR];omega
 simp[brng,Rg.ext_iff,h2,h3]
theorem awf (h:(!(((7:Int)==6)&&(b.sl==9223372036854775807)))=true):bcan 7 a b=true:=by simp[bcan]
theorem av2 (h:(!(((7:Int)==6)&&(b.sl==9223372036854775807)))=true):(⟨a.ul,a.uh,if((7:Int)==6)=true/\(b.sl==9223372036854775807)=true then a.sl else max a.sl (if((7:Int)==6)=true then IntKind.i64.wrap (b.sl+1) else b.sl),a.sh⟩:Rg)=brng 7 a b:=by simp[brng,Rg.ext_iff]
theorem av9 (h:(!(((8:Int)==8)&&(b.sh==(-9223372036854775808))))=false):bcan 8 a b=false:=by
 have h2:b.sh=(-9223372036854775808):=by simpa using h
 simp[bcan,h2]
theorem awe (h:(!(((8:Int)==8)&&(b.sh==(-9223372036854775808))))=true):bcan 8 a b=true:=by
 have h2:b.sh≠(-9223372036854775808):=by simpa using h
 simp[bcan,h2]
theorem av1 (h:(!(((8:Int)==8)&&(b.sh==(-9223372036854775808))))=true):(⟨a.ul,a.uh,a.sl,if((8:Int)==8)=true/\(b.sh==(-9223372036854775808))=true then a.sh else min a.sh (if((8:Int)==8)=true then IntKind.i64.wrap (b.sh-1) else b.sh)⟩:Rg)=brng 8 a b:=by
 have h2:b.sh≠(-9223372036854775808):=by simpa using h
 have wa:=Rg.wf_of ha
 have wb:=Rg.wf_of hb
 obtain⟨⟨a0,a1⟩,⟨a2,a3⟩,⟨a4,a5⟩,a6,a7⟩:=wa
 obtain⟨⟨b0,b1⟩,⟨b2,b3⟩,⟨b4,b5⟩,b6,b7⟩:=wb
 have h3:IntKind.i64.wrap (b.sh-1)=b.sh-1:=by rw[aR];omega
 simp[brng,Rg.ext_iff,h2,h3]
theorem awd (h:(!(((9:Int)==8)&&(b.sh==(-9223372036854775808))))=true):bcan 9 a b=true:=by simp[bcan]
theorem av0 (h:(!(((9:Int)==8)&&(b.sh==(-9223372036854775808))))=true):(⟨a.ul,a.uh,a.sl,if((9:Int)==8)=true/\(b.sh==(-9223372036854775808))=true then a.sh else min a.sh (if((9:Int)==8)=true then IntKind.i64.wrap (b.sh-1) else b.sh)⟩:Rg)=brng 9 a b:=by simp[brng,Rg.ext_iff]
theorem auQ:bcan 10 a b=true:=by simp[bcan]
theorem auN:a=brng 10 a b:=by simp[brng]
theorem auP (h:eN b=false):bcan 1 a b=true:=by simp[bcan,h]
theorem auM (h:eN b=false):a=brng 1 a b:=by simp[brng,h]
theorem auO (h:eN b=true) (hu:(!((a.ul==aC b)&&(a.uh==aC b)))=false\/(!((a.sl==IntKind.i64.wrap (aC b))&&(a.sh==IntKind.i64.wrap (aC b))))=false):bcan 1 a b=false:=by
 have hs:aC b=b.ul:=by unfold aC;rw[h];simp
 have ht:IntKind.i64.wrap b.ul=s64 b.ul:=(bZ _).symm
 rw[hs,ht] at hu
 simp only[bcan,h,if_true]
 rcases hu with hu | hu
 ·simp at hu;simp[hu]
 ·simp at hu;simp[hu]
theorem awl (h:eN b=true) (hu:(!((a.ul==aC b)&&(a.uh==aC b)))=true) (hv:(!((a.sl==IntKind.i64.wrap (aC b))&&(a.sh==IntKind.i64.wrap (aC b))))=true):bcan 1 a b=true:=by
 have hs:aC b=b.ul:=by unfold aC;rw[h];simp
 have ht:IntKind.i64.wrap b.ul=s64 b.ul:=(bZ _).symm
 rw[hs] at hu
 rw[hs,ht] at hv
 simp only[bcan,h,if_true]
 simp at hu hv ⊢
 exact⟨hu,hv⟩
theorem av8 (ma:bmay a=true) (h:eN b=true) (hu:(!((a.ul==aC b)&&(a.uh==aC b)))=true) (hv:(!((a.sl==IntKind.i64.wrap (aC b))&&(a.sh==IntKind.i64.wrap (aC b))))=true):(⟨if(a.ul==aC b)=true/\(a.uh==aC b)=false then IntKind.u64.wrap (a.ul+1) else a.ul,if(a.ul==aC b)=false/\(a.uh==aC b)=true then IntKind.u64.wrap (a.uh-1) else a.uh,if(a.sl==IntKind.i64.wrap (aC b))=true/\(a.sh==IntKind.i64.wrap (aC b))=false then IntKind.i64.wrap (a.sl+1) else a.sl,if(a.sl==IntKind.i64.wrap (aC b))=false/\(a.sh==IntKind.i64.wrap (aC b))=true then IntKind.i64.wrap (a.sh-1) else a.sh⟩:Rg)=brng 1 a b:=by
 have hs:aC b=b.ul:=by unfold aC;rw[h];simp
 have ht:IntKind.i64.wrap b.ul=s64 b.ul:=(bZ _).symm
 rw[hs] at hu
 rw[hs,ht] at hv
 rw[hs,ht]
 have wa:=Rg.wf_of ha
 have wb:=Rg.wf_of hb
 obtain⟨⟨a0,a1⟩,⟨a2,a3⟩,⟨a4,a5⟩,a6,a7⟩:=wa
 obtain⟨⟨b0,b1⟩,⟨b2,b3⟩,⟨b4,b5⟩,b6,b7⟩:=wb
 have sb:=ix b.ul
 rw[ce] at ma
 simp only[brng,h,if_true,Rg.ext_iff]
 generalize s64 b.ul=t at *
 simp only[Bool.not_eq_true',Bool.and_eq_false_iff,beq_eq_false_iff_ne,ne_eq] at hu hv
 simp only[db,beq_eq_false_iff_ne,ne_eq,bf,aR]
 refine⟨?_,?_,?_,?_⟩<;>(split<;>(try split)<;>omega)
end
def tys_XbE:List (Nat×TI):=[(2,tiq2),
 (37,gP),
 (42,fF),
 (44,gO),
 (209,afw),
 (213,afv)]
theorem ae3:(tys_XbE.all fun p=>ckTI Tryz.prog p.1 p.2)=true:=by kernel_rfl
theorem vq:(tys_XbE.all fun p=>!p.2.eqok)=true:=by kernel_rfl
theorem aeH:(tys_XbE.all fun p=>!p.2.keyok)=true:=by kernel_rfl
theorem em:∀t i,(t,i)∈tys_XbE->TIok Tryz.prog t i:=by
 intro t i h
 refine bB (cz (f:=ckTI Tryz.prog) ae3 h) (fun he=> ?_) (fun he=> ?_) (fun he=> ?_)
 ·have h1:=thm7.1 vq (t,i) h
  simp[he] at h1
 ·have h1:=thm7.1 vq (t,i) h
  simp[he] at h1
 ·have h1:=thm7.1 aeH (t,i) h
  simp[he] at h1
def oS (key:Nat):Sm:=⟨25,key,[.one (.int .i8),.one (.int .i8),.one (.int .u64),.one (.int .u64)],[.one (.int .u64),.one (.int .i64)],true⟩
def oA (op:Int) (l:Int) (x:Int) (y:Int):List Dt:=[.z (if okop op l=true then zdo op l x y else 0),.z (if okop op l=true then 0 else 2)]
def mo:List Dt->List Dt
 | [.z x0,.z x1,.z x2,.z x3]=>oA x0 x1 x2 x3
 | _=>[]
theorem age (op:Int) (hop:inK .i8 op=true) (l:Int) (hl:inK .i8 l=true) (x:Int) (hx:inK .u64 x=true) (y:Int) (hy:inK .u64 y=true):(∀w,Calls Tryz.prog 25 #[.int .i8 op,.int .i8 l,.int .u64 x,.int .u64 y] w fun e w'=>e=.returned (.tuple #[.int .u64 (if okop op l=true then zdo op l x y else 0),.int .i64 (if okop op l=true then 0 else 2)])/\Ext w w')/\jC (.tuple #[.int .u64 (if okop op l=true then zdo op l x y else 0),.int .i64 (if okop op l=true then 0 else 2)])=true:=by
 have gx:=cR hx
 have gy:=cR hy
 cases hk:okop op l
 ·refine⟨fun w=>(au4 op l x y w ?_).mono ?_,by simp[jC,iD,iO];decide⟩
  ·unfold okop at hk
   rw[Bool.and_eq_false_iff,Bool.and_eq_false_iff] at hk
   rcases hk with(hk | hk) | hk
   ·have:=thm2 hk
    simp;omega
   ·have:=thm2 hk
    simp;omega
   ·rw[hk];simp
  ·rintro e w' ⟨rfl,rfl⟩
   exact⟨by simp,Ext.refl _⟩
 ·unfold okop at hk
  simp only[thm0,aZ] at hk
  have hz:=rY (aee op l x y gx.1 gx.2 gy.1 gy.2)
  refine⟨fun w=>(au5 op l x y w gx.1 gx.2 gy.1 gy.2 hk.1.1 hk.1.2 hk.2).mono ?_,by simp[jC,iD,iO,hz];decide⟩
  rintro e w' ⟨rfl,hx⟩
  exact⟨by simp,hx⟩
theorem arA {sp:Spec} {key:Nat} (hF:sp.F key=mo):SmOk Tryz.prog sp (oS key):=by
 refine SmOk.pure hF rfl rfl fun xs vals w h=> ?_
 obtain⟨_,_,_,rfl,⟨x0,rfl,rfl,gx0⟩,h⟩:=h
 obtain⟨_,_,_,rfl,⟨x1,rfl,rfl,gx1⟩,h⟩:=h
 obtain⟨_,_,_,rfl,⟨x2,rfl,rfl,gx2⟩,h⟩:=h
 obtain⟨_,_,_,rfl,⟨x3,rfl,rfl,gx3⟩,h⟩:=h
 obtain⟨rfl,rfl⟩:=h
 have q:=age x0 gx0 x1 gx1 x2 gx2 x3 gx3
 refine⟨_,.inr ⟨dG Tryz.func25 (by kernel_rfl) (by kernel_rfl) _ w,q.1 w⟩,?_,fun U v0 nid j he=> ?_⟩
 ·have q2:=q.2
  simp[jC,iD,iO] at q2
  simp[oS,mo,oA,List.flatMap_cons,List.flatMap_nil,Sh.cks,List.append_nil,List.cons_append,List.nil_append,b2i_one,fQ,q2]
 ·simp only[oS,mo,oA,List.flatMap_cons,List.flatMap_nil,Sh.cks,List.append_nil,List.cons_append,List.nil_append,b2i_one,eqs,dI,dB,bT,nm,bt,Nat.add_zero,Nat.reduceAdd,and_true] at he
  simp[oS,mo,oA,List.flatMap_cons,List.flatMap_nil,Sh.cks,List.append_nil,List.cons_append,List.nil_append,b2i_one,fP,bo,aH,V.den,C.den,denL,den0,bN,E.I,E.B,he]
def aht (key:Nat):Sm:=⟨195,key,[.agg kPu,.one (.int .u64)],[.agg kPu,.one .bool],true⟩
def agn (a:Pu) (v:Int):List Dt:=[.z (((⟨if(a.lo==v)=true/\(a.hi==v)=false then IntKind.u64.wrap (a.lo+1) else a.lo,if(a.lo==v)=false/\(a.hi==v)=true then IntKind.u64.wrap (a.hi-1) else a.hi⟩:Pu)).lo),.z (((⟨if(a.lo==v)=true/\(a.hi==v)=false then IntKind.u64.wrap (a.lo+1) else a.lo,if(a.lo==v)=false/\(a.hi==v)=true then IntKind.u64.wrap (a.hi-1) else a.hi⟩:Pu)).hi),.z (b2i ((!((a.lo==v)&&(a.hi==v)))))]
def xe:List Dt->List Dt
 | [.z x0,.z x1,.z x2]=>agn ⟨x0,x1⟩ x2
 | _=>[]
def sT_uwo:Tr:=
(.br (.eq (.var 0) (.var 2))
(.br (.eq (.var 1) (.var 2))
(.leaf (.vs 0 2 (.cb (.tt false) .nil)))
(.leaf (.cons (.bin .add .u64 (.var 0) (.lit 1)) (.cons (.var 1) (.cb (.tt true) .nil)))))
(.br (.eq (.var 1) (.var 2))
(.leaf (.cons (.var 0) (.cons (.bin .sub .u64 (.var 1) (.lit 1)) (.cb (.tt true) .nil))))
(.leaf (.vs 0 2 (.cb (.tt true) .nil)))))
def anH:Spec:={F:=fun k=>match k with | _=>fun _=>[],pre:=fun _ _=>True}
theorem atz:ap tys_XbE [] [] [] [] 200 Tryz.f195 [.agg kPu,.one (.int .u64)] [.agg kPu,.one .bool] true [.int .u64,.int .u64,.int .u64] sT_uwo:=⟨by kernel_rfl,by kernel_rfl,by kernel_rfl⟩
theorem ata (a:Pu) (ha:Pu.ok a) (v:Int) (hv:inK .u64 v=true) (U:Env) (g:varsD U 0 [.int .u64,.int .u64,.int .u64]=[.z a.lo,.z a.hi,.z v]):sT_uwo.asks anH (fun U e=>e.D U=xe [.z a.lo,.z a.hi,.z v]) U fun _ _=>False:=by
 simp only[varsD,varD,thm5,gS0,Nat.reduceAdd,and_true] at g
 simp only[sT_uwo,anH,xe,agn,simQ,ai,S1,Nat.reduceSub,Nat.reduceAdd,-eq_self,Pu.eta,g]
 constructor<;>intro c0
 constructor<;>intro c1
 ·(simp_all [opI])
 ·(simp_all [opI])
 constructor<;>intro c2
 ·(simp_all [opI])
 ·(simp_all [opI])
theorem atZ {sp:Spec} {key:Nat} (hF:sp.F key=xe) (hP:sp.pre key=fun _=>True:=by rfl):SmOk Tryz.prog sp (aht key):=
 aq (s:=aht key) hF hP mxo6 em (sm0) Tryz.func195 fn0 atz (.inl rfl) (fun x0 gx0 x1 gx1 x2 gx2 hp U g=>ata ⟨x0,x1⟩ ⟨gx0,gx1⟩ x2 gx2 U g)
def ahA (key:Nat):Sm:=⟨196,key,[.agg kPi,.one (.int .i64)],[.agg kPi,.one .bool],true⟩
def agu (a:Pi) (v:Int):List Dt:=[.z (((⟨if(a.lo==v)=true/\(a.hi==v)=false then IntKind.i64.wrap (a.lo+1) else a.lo,if(a.lo==v)=false/\(a.hi==v)=true then IntKind.i64.wrap (a.hi-1) else a.hi⟩:Pi)).lo),.z (((⟨if(a.lo==v)=true/\(a.hi==v)=false then IntKind.i64.wrap (a.lo+1) else a.lo,if(a.lo==v)=false/\(a.hi==v)=true then IntKind.i64.wrap (a.hi-1) else a.hi⟩:Pi)).hi),.z (b2i ((!((a.lo==v)&&(a.hi==v)))))]
def xl:List Dt->List Dt
 | [.z x0,.z x1,.z x2]=>agu ⟨x0,x1⟩ x2
 | _=>[]
def sT_iwo:Tr:=
(.br (.eq (.var 0) (.var 2))
(.br (.eq (.var 1) (.var 2))
(.leaf (.vs 0 2 (.cb (.tt false) .nil)))
(.leaf (.cons (.bin .add .i64 (.var 0) (.lit 1)) (.cons (.var 1) (.cb (.tt true) .nil)))))
(.br (.eq (.var 1) (.var 2))
(.leaf (.cons (.var 0) (.cons (.bin .sub .i64 (.var 1) (.lit 1)) (.cb (.tt true) .nil))))
(.leaf (.vs 0 2 (.cb (.tt true) .nil)))))
def anT:Spec:={F:=fun k=>match k with | _=>fun _=>[],pre:=fun _ _=>True}
theorem atL:ap tys_XbE [] [] [] [] 200 Tryz.f196 [.agg kPi,.one (.int .i64)] [.agg kPi,.one .bool] true [.int .i64,.int .i64,.int .i64] sT_iwo:=⟨by kernel_rfl,by kernel_rfl,by kernel_rfl⟩
theorem atn (a:Pi) (ha:Pi.ok a) (v:Int) (hv:inK .i64 v=true) (U:Env) (g:varsD U 0 [.int .i64,.int .i64,.int .i64]=[.z a.lo,.z a.hi,.z v]):sT_iwo.asks anT (fun U e=>e.D U=xl [.z a.lo,.z a.hi,.z v]) U fun _ _=>False:=by
 simp only[varsD,varD,thm5,gS0,Nat.reduceAdd,and_true] at g
 simp only[sT_iwo,anT,xl,agu,simQ,ai,S1,Nat.reduceSub,Nat.reduceAdd,-eq_self,Pi.eta,g]
 constructor<;>intro c0
 constructor<;>intro c1
 ·(simp_all [opI])
 ·(simp_all [opI])
 constructor<;>intro c2
 ·(simp_all [opI])
 ·(simp_all [opI])
theorem aub {sp:Spec} {key:Nat} (hF:sp.F key=xl) (hP:sp.pre key=fun _=>True:=by rfl):SmOk Tryz.prog sp (ahA key):=
 aq (s:=ahA key) hF hP mxo6 em (sm0) Tryz.func196 fn0 atL (.inl rfl) (fun x0 gx0 x1 gx1 x2 gx2 hp U g=>atn ⟨x0,x1⟩ ⟨gx0,gx1⟩ x2 gx2 U g)
def oH (key:Nat):Sm:=⟨197,key,[.agg kPu,.agg kPu,.one .bool,.one (.int .u64)],[.agg kPu,.one .bool],true⟩
def oq (a:Pu) (b:Pu) (t:Bool) (m:Int):List Dt:=[.z (((⟨if t=true/\(b.lo==m)=true then a.lo else max a.lo (if t=true then IntKind.u64.wrap (b.lo+1) else b.lo),a.hi⟩:Pu)).lo),.z (((⟨if t=true/\(b.lo==m)=true then a.lo else max a.lo (if t=true then IntKind.u64.wrap (b.lo+1) else b.lo),a.hi⟩:Pu)).hi),.z (b2i ((!(t&&(b.lo==m)))))]
def il:List Dt->List Dt
 | [.z x0,.z x1,.z x2,.z x3,.z x4,.z x5]=>oq ⟨x0,x1⟩ ⟨x2,x3⟩ (x4==1) x5
 | _=>[]
def sT_uabove:Tr:=
(.br (.bw 4)
(.br (.eq (.var 2) (.var 5))
(.leaf (.vs 0 2 (.cb (.tt false) .nil)))
(.leaf (.cons (.mx (.var 0) (.bin .add .u64 (.var 2) (.lit 1))) (.cons (.var 1) (.cb (.tt true) .nil)))))
(.leaf (.cons (.mx (.var 0) (.var 2)) (.cons (.var 1) (.cb (.tt true) .nil)))))
def wG:Spec:={F:=fun k=>match k with | _=>fun _=>[],pre:=fun _ _=>True}
theorem agz:ap tys_XbE [] [] [] [] 200 Tryz.f197 [.agg kPu,.agg kPu,.one .bool,.one (.int .u64)] [.agg kPu,.one .bool] true [.int .u64,.int .u64,.int .u64,.int .u64,.bool,.int .u64] sT_uabove:=⟨by kernel_rfl,by kernel_rfl,by kernel_rfl⟩
theorem af2 (a:Pu) (ha:Pu.ok a) (b:Pu) (hb:Pu.ok b) (t:Bool) (m:Int) (hm:inK .u64 m=true) (U:Env) (g:varsD U 0 [.int .u64,.int .u64,.int .u64,.int .u64,.bool,.int .u64]=[.z a.lo,.z a.hi,.z b.lo,.z b.hi,.z (b2i t),.z m]):sT_uabove.asks wG (fun U e=>e.D U=il [.z a.lo,.z a.hi,.z b.lo,.z b.hi,.z (b2i t),.z m]) U fun _ _=>False:=by
 simp only[varsD,varD,thm5,gS0,Nat.reduceAdd,and_true] at g
 simp only[sT_uabove,wG,il,oq,simQ,ai,S1,Nat.reduceSub,Nat.reduceAdd,-eq_self,Pu.eta,g]
 constructor<;>intro c0
 constructor<;>intro c1
 ·(simp_all [opI])
 ·(simp_all [opI])
 ·(simp_all [opI])
theorem ahJ {sp:Spec} {key:Nat} (hF:sp.F key=il) (hP:sp.pre key=fun _=>True:=by rfl):SmOk Tryz.prog sp (oH key):=
 aq (s:=oH key) hF hP mxo6 em (sm0) Tryz.func197 fn0 agz (.inl rfl) (fun x0 gx0 x1 gx1 x2 gx2 x3 gx3 x4 x5 gx5 hp U g=>af2 ⟨x0,x1⟩ ⟨gx0,gx1⟩ ⟨x2,x3⟩ ⟨gx2,gx3⟩ x4 x5 gx5 U g)
def oG (key:Nat):Sm:=⟨198,key,[.agg kPu,.agg kPu,.one .bool,.one (.int .u64)],[.agg kPu,.one .bool],true⟩
def om (a:Pu) (b:Pu) (t:Bool) (m:Int):List Dt:=[.z (((⟨a.lo,if t=true/\(b.hi==m)=true then a.hi else min a.hi (if t=true then IntKind.u64.wrap (b.hi-1) else b.hi)⟩:Pu)).lo),.z (((⟨a.lo,if t=true/\(b.hi==m)=true then a.hi else min a.hi (if t=true then IntKind.u64.wrap (b.hi-1) else b.hi)⟩:Pu)).hi),.z (b2i ((!(t&&(b.hi==m)))))]
def ij:List Dt->List Dt
 | [.z x0,.z x1,.z x2,.z x3,.z x4,.z x5]=>om ⟨x0,x1⟩ ⟨x2,x3⟩ (x4==1) x5
 | _=>[]
def sT_ubelow:Tr:=
(.br (.bw 4)
(.br (.eq (.var 3) (.var 5))
(.leaf (.vs 0 2 (.cb (.tt false) .nil)))
(.leaf (.cons (.var 0) (.cons (.mn (.var 1) (.bin .sub .u64 (.var 3) (.lit 1))) (.cb (.tt true) .nil)))))
(.leaf (.cons (.var 0) (.cons (.mn (.var 1) (.var 3)) (.cb (.tt true) .nil)))))
def wF:Spec:={F:=fun k=>match k with | _=>fun _=>[],pre:=fun _ _=>True}
theorem agy:ap tys_XbE [] [] [] [] 200 Tryz.f198 [.agg kPu,.agg kPu,.one .bool,.one (.int .u64)] [.agg kPu,.one .bool] true [.int .u64,.int .u64,.int .u64,.int .u64,.bool,.int .u64] sT_ubelow:=⟨by kernel_rfl,by kernel_rfl,by kernel_rfl⟩
theorem af1 (a:Pu) (ha:Pu.ok a) (b:Pu) (hb:Pu.ok b) (t:Bool) (m:Int) (hm:inK .u64 m=true) (U:Env) (g:varsD U 0 [.int .u64,.int .u64,.int .u64,.int .u64,.bool,.int .u64]=[.z a.lo,.z a.hi,.z b.lo,.z b.hi,.z (b2i t),.z m]):sT_ubelow.asks wF (fun U e=>e.D U=ij [.z a.lo,.z a.hi,.z b.lo,.z b.hi,.z (b2i t),.z m]) U fun _ _=>False:=by
 simp only[varsD,varD,thm5,gS0,Nat.reduceAdd,and_true] at g
 simp only[sT_ubelow,wF,ij,om,simQ,ai,S1,Nat.reduceSub,Nat.reduceAdd,-eq_self,Pu.eta,g]
 constructor<;>intro c0
 constructor<;>intro c1
 ·(simp_all [opI])
 ·(simp_all [opI])
 ·(simp_all [opI])
theorem ahI {sp:Spec} {key:Nat} (hF:sp.F key=ij) (hP:sp.pre key=fun _=>True:=by rfl):SmOk Tryz.prog sp (oG key):=
 aq (s:=oG key) hF hP mxo6 em (sm0) Tryz.func198 fn0 agy (.inl rfl) (fun x0 gx0 x1 gx1 x2 gx2 x3 gx3 x4 x5 gx5 hp U g=>af1 ⟨x0,x1⟩ ⟨gx0,gx1⟩ ⟨x2,x3⟩ ⟨gx2,gx3⟩ x4 x5 gx5 U g)
def oR (key:Nat):Sm:=⟨199,key,[.agg kPi,.agg kPi,.one .bool,.one (.int .i64)],[.agg kPi,.one .bool],true⟩
def oz (a:Pi) (b:Pi) (t:Bool) (m:Int):List Dt:=[.z (((⟨if t=true/\(b.lo==m)=true then a.lo else max a.lo (if t=true then IntKind.i64.wrap (b.lo+1) else b.lo),a.hi⟩:Pi)).lo),.z (((⟨if t=true/\(b.lo==m)=true then a.lo else max a.lo (if t=true then IntKind.i64.wrap (b.lo+1) else b.lo),a.hi⟩:Pi)).hi),.z (b2i ((!(t&&(b.lo==m)))))]
def iw:List Dt->List Dt
 | [.z x0,.z x1,.z x2,.z x3,.z x4,.z x5]=>oz ⟨x0,x1⟩ ⟨x2,x3⟩ (x4==1) x5
 | _=>[]
def sT_iabove:Tr:=
(.br (.bw 4)
(.br (.eq (.var 2) (.var 5))
(.leaf (.vs 0 2 (.cb (.tt false) .nil)))
(.leaf (.cons (.mx (.var 0) (.bin .add .i64 (.var 2) (.lit 1))) (.cons (.var 1) (.cb (.tt true) .nil)))))
(.leaf (.cons (.mx (.var 0) (.var 2)) (.cons (.var 1) (.cb (.tt true) .nil)))))
def wR:Spec:={F:=fun k=>match k with | _=>fun _=>[],pre:=fun _ _=>True}
theorem agK:ap tys_XbE [] [] [] [] 200 Tryz.f199 [.agg kPi,.agg kPi,.one .bool,.one (.int .i64)] [.agg kPi,.one .bool] true [.int .i64,.int .i64,.int .i64,.int .i64,.bool,.int .i64] sT_iabove:=⟨by kernel_rfl,by kernel_rfl,by kernel_rfl⟩
theorem agd (a:Pi) (ha:Pi.ok a) (b:Pi) (hb:Pi.ok b) (t:Bool) (m:Int) (hm:inK .i64 m=true) (U:Env) (g:varsD U 0 [.int .i64,.int .i64,.int .i64,.int .i64,.bool,.int .i64]=[.z a.lo,.z a.hi,.z b.lo,.z b.hi,.z (b2i t),.z m]):sT_iabove.asks wR (fun U e=>e.D U=iw [.z a.lo,.z a.hi,.z b.lo,.z b.hi,.z (b2i t),.z m]) U fun _ _=>False:=by
 simp only[varsD,varD,thm5,gS0,Nat.reduceAdd,and_true] at g
 simp only[sT_iabove,wR,iw,oz,simQ,ai,S1,Nat.reduceSub,Nat.reduceAdd,-eq_self,Pi.eta,g]
 constructor<;>intro c0
 constructor<;>intro c1
 ·(simp_all [opI])
 ·(simp_all [opI])
 ·(simp_all [opI])
theorem ah1 {sp:Spec} {key:Nat} (hF:sp.F key=iw) (hP:sp.pre key=fun _=>True:=by rfl):SmOk Tryz.prog sp (oR key):=
 aq (s:=oR key) hF hP mxo6 em (sm0) Tryz.func199 fn0 agK (.inl rfl) (fun x0 gx0 x1 gx1 x2 gx2 x3 gx3 x4 x5 gx5 hp U g=>agd ⟨x0,x1⟩ ⟨gx0,gx1⟩ ⟨x2,x3⟩ ⟨gx2,gx3⟩ x4 x5 gx5 U g)
def oQ (key:Nat):Sm:=⟨200,key,[.agg kPi,.agg kPi,.one .bool,.one (.int .i64)],[.agg kPi,.one .bool],true⟩
def oy (a:Pi) (b:Pi) (t:Bool) (m:Int):List Dt:=[.z (((⟨a.lo,if t=true/\(b.hi==m)=true then a.hi else min a.hi (if t=true then IntKind.i64.wrap (b.hi-1) else b.hi)⟩:Pi)).lo),.z (((⟨a.lo,if t=true/\(b.hi==m)=true then a.hi else min a.hi (if t=true then IntKind.i64.wrap (b.hi-1) else b.hi)⟩:Pi)).hi),.z (b2i ((!(t&&(b.hi==m)))))]
def iu:List Dt->List Dt
 | [.z x0,.z x1,.z x2,.z x3,.z x4,.z x5]=>oy ⟨x0,x1⟩ ⟨x2,x3⟩ (x4==1) x5
 | _=>[]
def sT_ibelow:Tr:=
(.br (.bw 4)
(.br (.eq (.var 3) (.var 5))
(.leaf (.vs 0 2 (.cb (.tt false) .nil)))
(.leaf (.cons (.var 0) (.cons (.mn (.var 1) (.bin .sub .i64 (.var 3) (.lit 1))) (.cb (.tt true) .nil)))))
(.leaf (.cons (.var 0) (.cons (.mn (.var 1) (.var 3)) (.cb (.tt true) .nil)))))
def wQ:Spec:={F:=fun k=>match k with | _=>fun _=>[],pre:=fun _ _=>True}
theorem agJ:ap tys_XbE [] [] [] [] 200 Tryz.f200 [.agg kPi,.agg kPi,.one .bool,.one (.int .i64)] [.agg kPi,.one .bool] true [.int .i64,.int .i64,.int .i64,.int .i64,.bool,.int .i64] sT_ibelow:=⟨by kernel_rfl,by kernel_rfl,by kernel_rfl⟩
theorem agc (a:Pi) (ha:Pi.ok a) (b:Pi) (hb:Pi.ok b) (t:Bool) (m:Int) (hm:inK .i64 m=true) (U:Env) (g:varsD U 0 [.int .i64,.int .i64,.int .i64,.int .i64,.bool,.int .i64]=[.z a.lo,.z a.hi,.z b.lo,.z b.hi,.z (b2i t),.z m]):sT_ibelow.asks wQ (fun U e=>e.D U=iu [.z a.lo,.z a.hi,.z b.lo,.z b.hi,.z (b2i t),.z m]) U fun _ _=>False:=by
 simp only[varsD,varD,thm5,gS0,Nat.reduceAdd,and_true] at g
 simp only[sT_ibelow,wQ,iu,oy,simQ,ai,S1,Nat.reduceSub,Nat.reduceAdd,-eq_self,Pi.eta,g]
 constructor<;>intro c0
 constructor<;>intro c1
 ·(simp_all [opI])
 ·(simp_all [opI])
 ·(simp_all [opI])
theorem ah0 {sp:Spec} {key:Nat} (hF:sp.F key=iu) (hP:sp.pre key=fun _=>True:=by rfl):SmOk Tryz.prog sp (oQ key):=
 aq (s:=oQ key) hF hP mxo6 em (sm0) Tryz.func200 fn0 agJ (.inl rfl) (fun x0 gx0 x1 gx1 x2 gx2 x3 gx3 x4 x5 gx5 hp U g=>agc ⟨x0,x1⟩ ⟨gx0,gx1⟩ ⟨x2,x3⟩ ⟨gx2,gx3⟩ x4 x5 gx5 U g)
def ud (key:Nat):Sm:=⟨149,key,[.one (.int .i8),.agg kRg,.agg kRg],[.agg kRg,.one .bool],true⟩
def tk (cc:Int) (a:Rg) (b:Rg):List Dt:=[.z ((bgiv cc a b).ul),.z ((bgiv cc a b).uh),.z ((bgiv cc a b).sl),.z ((bgiv cc a b).sh),.z (b2i (bgok cc a b))]
def lf:List Dt->List Dt
 | [.z x0,.z x1,.z x2,.z x3,.z x4,.z x5,.z x6,.z x7,.z x8]=>tk x0 ⟨x1,x2,x3,x4⟩ ⟨x5,x6,x7,x8⟩
 | _=>[]
def ao9:Tr:=(.call 1 (kRg) .nil 20
(.leaf (.vs 20 4 (.cb (.tt false) .nil))))
def apa:Tr:=(.call 1 (kRg) .nil 23
(.leaf (.vs 23 4 (.cb (.tt false) .nil))))
def aj8:Tr:=(.call 1 (kRg) .nil 11
(.leaf (.vs 11 4 (.cb (.tt false) .nil))))
def apb:Tr:=(.call 13 (kRg++[.bool]) (.vs 20 4 .nil) 24
(.leaf (.vs 24 4 (.cb (.bw 28) .nil))))
def apc:Tr:=(.br (.bw 19)
(.call 12 (kRg) (.vs 11 2 (.vs 17 2 .nil)) 20
 apb)
 ao9)
def apd:Tr:=(.br (.bw 19)
(.call 12 (kRg) (.vs 17 2 (.vs 13 2 .nil)) 20
 apb)
 ao9)
def ape:Tr:=(.call 4 (kPu) (.vs 5 4 .nil) 15
(.call 9 (kPu++[.bool]) (.vs 11 2 (.vs 15 2 (.cb (.eq (.var 0) (.lit 4)) (.cons (.lit 0) .nil)))) 17
 apd))
def apf:Tr:=(.call 5 (kPi) (.vs 5 4 .nil) 15
(.call 10 (kPi++[.bool]) (.vs 13 4 (.cb (.eq (.var 0) (.lit 6)) (.cons (.lit 9223372036854775807) .nil))) 17
 apc))
def apg:Tr:=(.call 5 (kPi) (.vs 5 4 .nil) 15
(.call 11 (kPi++[.bool]) (.vs 13 4 (.cb (.eq (.var 0) (.lit 8)) (.cons (.lit (-9223372036854775808)) .nil))) 17
 apc))
def aph:Tr:=(.call 4 (kPu) (.vs 5 4 .nil) 15
(.call 8 (kPu++[.bool]) (.vs 11 2 (.vs 15 2 (.cb (.eq (.var 0) (.lit 2)) (.cons (.lit 18446744073709551615) .nil)))) 17
 apd))
def sT_given:Tr:=
(.call 0 [.bool] (.vs 1 4 .nil) 9
(.br (.bw 9)
(.call 0 [.bool] (.vs 5 4 .nil) 10
(.br (.bw 10)
(.br (.lt (.var 0) (.lit 0))
 aj8
(.br (.lt (.lit 10) (.var 0))
 aj8
(.call 4 (kPu) (.vs 1 4 .nil) 11
(.call 5 (kPi) (.vs 1 4 .nil) 13
(.br (.eq (.var 0) (.lit 0))
(.call 2 (kRg++[.bool]) (.vs 1 8 .nil) 15
(.leaf (.vs 15 4 (.cb (.bw 19) .nil))))
(.br (.eq (.var 0) (.lit 1))
(.call 3 [.int .u64,.bool] (.vs 5 4 .nil) 15
(.br (.bw 16)
(.call 6 (kPu++[.bool]) (.vs 11 2 (.cons (.var 15) .nil)) 17
(.call 7 (kPi++[.bool]) (.vs 13 2 (.cons (.conv .i64 (.var 15)) .nil)) 20
(.br (.bw 19)
(.br (.bw 22)
(.call 12 (kRg) (.vs 17 2 (.vs 20 2 .nil)) 23
(.call 13 (kRg++[.bool]) (.vs 23 4 .nil) 27
(.leaf (.vs 27 4 (.cb (.bw 31) .nil)))))
 apa)
 apa)))
(.call 12 (kRg) (.vs 11 4 .nil) 17
(.call 13 (kRg++[.bool]) (.vs 17 4 .nil) 21
(.leaf (.vs 21 4 (.cb (.bw 25) .nil)))))))
(.br (.eq (.var 0) (.lit 2))
 aph
(.br (.eq (.var 0) (.lit 3))
 aph
(.br (.eq (.var 0) (.lit 4))
 ape
(.br (.eq (.var 0) (.lit 5))
 ape
(.br (.eq (.var 0) (.lit 6))
 apf
(.br (.eq (.var 0) (.lit 7))
 apf
(.br (.eq (.var 0) (.lit 8))
 apg
(.br (.eq (.var 0) (.lit 9))
 apg
(.call 12 (kRg) (.vs 11 4 .nil) 15
(.call 13 (kRg++[.bool]) (.vs 15 4 .nil) 19
(.leaf (.vs 19 4 (.cb (.bw 23) .nil)))))))))))))))))))
 aj8))
(.call 1 (kRg) .nil 10
(.leaf (.vs 10 4 (.cb (.tt false) .nil))))))
def abE:Spec:={F:=fun k=>match k with | 0=>cE | 1=>bF | 2=>jN | 3=>dd | 4=>ew | 5=>ez | 6=>xe | 7=>xl | 8=>il | 9=>ij | 10=>iw | 11=>iu | 12=>jK | 13=>kW | _=>fun _=>[],pre:=fun _ _=>True}
theorem alU:ap tys_XbE [hZ 0,eu 1,tV 2,hJ 3,mQ 4,mR 5,aht 6,ahA 7,oH 8,oG 9,oR 10,oQ 11,wS 12,wT 13] [] [] [] 200 Tryz.f149 [.one (.int .i8),.agg kRg,.agg kRg] [.agg kRg,.one .bool] true [.int .i8,.int .u64,.int .u64,.int .i64,.int .i64,.int .u64,.int .u64,.int .i64,.int .i64] sT_given:=⟨by kernel_rfl,by kernel_rfl,by kernel_rfl⟩
theorem alk (cc:Int) (hcc:inK .i8 cc=true) (a:Rg) (ha:Rg.ok a) (b:Rg) (hb:Rg.ok b) (U:Env) (g:varsD U 0 [.int .i8,.int .u64,.int .u64,.int .i64,.int .i64,.int .u64,.int .u64,.int .i64,.int .i64]=[.z cc,.z a.ul,.z a.uh,.z a.sl,.z a.sh,.z b.ul,.z b.uh,.z b.sl,.z b.sh]):sT_given.asks abE (fun U e=>e.D U=lf [.z cc,.z a.ul,.z a.uh,.z a.sl,.z a.sh,.z b.ul,.z b.uh,.z b.sl,.z b.sh]) U fun _ _=>False:=by
 simp only[varsD,varD,thm5,gS0,Nat.reduceAdd,and_true] at g
 simp only[sT_given,aph,apg,apf,ape,apd,apc,apb,aj8,apa,ao9,abE,kPi,kPu,kRg,cE,bF,jN,dd,ew,ez,xe,xl,il,ij,iw,iu,jK,kW,gY,sX,gX,mO,mP,agn,agu,oq,om,oz,oy,wx,wy,lf,tk,simQ,ai,S1,Nat.reduceSub,Nat.reduceAdd,-eq_self,aa,g]
 intro e;(try simp only[e,aa,-eq_self]);clear e
 constructor<;>intro c0
 intro e;(try simp only[e,aa,-eq_self]);clear e
 constructor<;>intro c1
 constructor<;>intro c2
 intro e;(try simp only[e,aa,-eq_self]);clear e
 ·exact cv (fh (.inl (by unfold jn;rw[c0,c1,fW (show¬0<=cc from Int.not_le.2 (thm3 c2))];rfl))).1 (fh (.inl (by unfold jn;rw[c0,c1,fW (show¬0<=cc from Int.not_le.2 (thm3 c2))];rfl))).2
 constructor<;>intro c3
 intro e;(try simp only[e,aa,-eq_self]);clear e
 ·exact cv (fh (.inl (by unfold jn;rw[c0,c1,fW (show¬cc<=10 from Int.not_le.2 (thm3 c3))];simp))).1 (fh (.inl (by unfold jn;rw[c0,c1,fW (show¬cc<=10 from Int.not_le.2 (thm3 c3))];simp))).2
 intro e;(try simp only[e,aa,-eq_self]);clear e
 intro e;(try simp only[e,aa,-eq_self]);clear e
 constructor<;>intro c4
 intro e;(try simp only[e,aa,-eq_self]);clear e
 ·(have hcc:0<=cc/\cc<=10:=⟨bq.1 (thm2 c2),bq.1 (thm2 c3)⟩;have hg:=bA c0 c1 hcc;obtain rfl:=eqz c4;exact cv (auR hg).1 (auR hg).2)
 constructor<;>intro c5
 intro e;(try simp only[e,aa,-eq_self]);clear e
 constructor<;>intro c6
 intro e;(try simp only[e,aa,-eq_self]);clear e
 intro e;(try simp only[e,aa,-eq_self]);clear e
 constructor<;>intro c7
 constructor<;>intro c8
 intro e;(try simp only[e,aa,-eq_self]);clear e
 intro e;(try simp only[e,aa,-eq_self]);clear e
 ·(have hcc:0<=cc/\cc<=10:=⟨bq.1 (thm2 c2),bq.1 (thm2 c3)⟩;have hg:=bA c0 c1 hcc;obtain rfl:=eqz c5;have hq:=iI (by omega) hg (awl ha hb c6 c7 c8) (av8 ha hb c0 c6 c7 c8);exact cv hq.1 hq.2)
 intro e;(try simp only[e,aa,-eq_self]);clear e
 ·(have hcc:0<=cc/\cc<=10:=⟨bq.1 (thm2 c2),bq.1 (thm2 c3)⟩;have hg:=bA c0 c1 hcc;obtain rfl:=eqz c5;have hq:=fh (cc:=1) (.inr ⟨by omega,auO ha hb c6 (.inr c8)⟩);exact cv hq.1 hq.2)
 intro e;(try simp only[e,aa,-eq_self]);clear e
 ·(have hcc:0<=cc/\cc<=10:=⟨bq.1 (thm2 c2),bq.1 (thm2 c3)⟩;have hg:=bA c0 c1 hcc;obtain rfl:=eqz c5;have hq:=fh (cc:=1) (.inr ⟨by omega,auO ha hb c6 (.inl c7)⟩);exact cv hq.1 hq.2)
 intro e;(try simp only[e,aa,-eq_self]);clear e
 intro e;(try simp only[e,aa,-eq_self]);clear e
 ·(have hcc:0<=cc/\cc<=10:=⟨bq.1 (thm2 c2),bq.1 (thm2 c3)⟩;have hg:=bA c0 c1 hcc;obtain rfl:=eqz c5;have hq:=iI (by omega) hg (auP ha hb c6) (auM ha hb c6);exact cv hq.1 hq.2)
 constructor<;>intro c9
 intro e;(try simp only[e,aa,-eq_self]);clear e
 intro e;(try simp only[e,aa,-eq_self]);clear e
 constructor<;>intro c10
 intro e;(try simp only[e,aa,-eq_self]);clear e
 intro e;(try simp only[e,aa,-eq_self]);clear e
 ·(have hcc:0<=cc/\cc<=10:=⟨bq.1 (thm2 c2),bq.1 (thm2 c3)⟩;have hg:=bA c0 c1 hcc;obtain rfl:=eqz c9;have hq:=iI (by omega) hg (awk ha hb c10) (av7 ha hb c10);exact cv hq.1 hq.2)
 intro e;(try simp only[e,aa,-eq_self]);clear e
 ·(have hcc:0<=cc/\cc<=10:=⟨bq.1 (thm2 c2),bq.1 (thm2 c3)⟩;have hg:=bA c0 c1 hcc;obtain rfl:=eqz c9;have hq:=fh (cc:=2) (.inr ⟨by omega,awc ha hb c10⟩);exact cv hq.1 hq.2)
 constructor<;>intro c11
 intro e;(try simp only[e,aa,-eq_self]);clear e
 intro e;(try simp only[e,aa,-eq_self]);clear e
 constructor<;>intro c12
 intro e;(try simp only[e,aa,-eq_self]);clear e
 intro e;(try simp only[e,aa,-eq_self]);clear e
 ·(have hcc:0<=cc/\cc<=10:=⟨bq.1 (thm2 c2),bq.1 (thm2 c3)⟩;have hg:=bA c0 c1 hcc;obtain rfl:=eqz c11;have hq:=iI (by omega) hg (awj ha hb c12) (av6 ha hb c12);exact cv hq.1 hq.2)
 intro e;(try simp only[e,aa,-eq_self]);clear e
 ·(have hcc:0<=cc/\cc<=10:=⟨bq.1 (thm2 c2),bq.1 (thm2 c3)⟩;have hg:=bA c0 c1 hcc;obtain rfl:=eqz c11;exact absurd c12 (by simp))
 constructor<;>intro c13
 intro e;(try simp only[e,aa,-eq_self]);clear e
 intro e;(try simp only[e,aa,-eq_self]);clear e
 constructor<;>intro c14
 intro e;(try simp only[e,aa,-eq_self]);clear e
 intro e;(try simp only[e,aa,-eq_self]);clear e
 ·(have hcc:0<=cc/\cc<=10:=⟨bq.1 (thm2 c2),bq.1 (thm2 c3)⟩;have hg:=bA c0 c1 hcc;obtain rfl:=eqz c13;have hq:=iI (by omega) hg (awi ha hb c14) (av5 ha hb c14);exact cv hq.1 hq.2)
 intro e;(try simp only[e,aa,-eq_self]);clear e
 ·(have hcc:0<=cc/\cc<=10:=⟨bq.1 (thm2 c2),bq.1 (thm2 c3)⟩;have hg:=bA c0 c1 hcc;obtain rfl:=eqz c13;have hq:=fh (cc:=4) (.inr ⟨by omega,awb ha hb c14⟩);exact cv hq.1 hq.2)
 constructor<;>intro c15
 intro e;(try simp only[e,aa,-eq_self]);clear e
 intro e;(try simp only[e,aa,-eq_self]);clear e
 constructor<;>intro c16
 intro e;(try simp only[e,aa,-eq_self]);clear e
 intro e;(try simp only[e,aa,-eq_self]);clear e
 ·(have hcc:0<=cc/\cc<=10:=⟨bq.1 (thm2 c2),bq.1 (thm2 c3)⟩;have hg:=bA c0 c1 hcc;obtain rfl:=eqz c15;have hq:=iI (by omega) hg (awh ha hb c16) (av4 ha hb c16);exact cv hq.1 hq.2)
 intro e;(try simp only[e,aa,-eq_self]);clear e
 ·(have hcc:0<=cc/\cc<=10:=⟨bq.1 (thm2 c2),bq.1 (thm2 c3)⟩;have hg:=bA c0 c1 hcc;obtain rfl:=eqz c15;exact absurd c16 (by simp))
 constructor<;>intro c17
 intro e;(try simp only[e,aa,-eq_self]);clear e
 intro e;(try simp only[e,aa,-eq_self]);clear e
 constructor<;>intro c18
 intro e;(try simp only[e,aa,-eq_self]);clear e
 intro e;(try simp only[e,aa,-eq_self]);clear e
 ·(have hcc:0<=cc/\cc<=10:=⟨bq.1 (thm2 c2),bq.1 (thm2 c3)⟩;have hg:=bA c0 c1 hcc;obtain rfl:=eqz c17;have hq:=iI (by omega) hg (awg ha hb c18) (av3 ha hb c18);exact cv hq.1 hq.2)
 intro e;(try simp only[e,aa,-eq_self]);clear e
 ·(have hcc:0<=cc/\cc<=10:=⟨bq.1 (thm2 c2),bq.1 (thm2 c3)⟩;have hg:=bA c0 c1 hcc;obtain rfl:=eqz c17;have hq:=fh (cc:=6) (.inr ⟨by omega,awa ha hb c18⟩);exact cv hq.1 hq.2)
 constructor<;>intro c19
 intro e;(try simp only[e,aa,-eq_self]);clear e
 intro e;(try simp only[e,aa,-eq_self]);clear e
 constructor<;>intro c20
 intro e;(try simp only[e,aa,-eq_self]);clear e
 intro e;(try simp only[e,aa,-eq_self]);clear e
 ·(have hcc:0<=cc/\cc<=10:=⟨bq.1 (thm2 c2),bq.1 (thm2 c3)⟩;have hg:=bA c0 c1 hcc;obtain rfl:=eqz c19;have hq:=iI (by omega) hg (awf ha hb c20) (av2 ha hb c20);exact cv hq.1 hq.2)
 intro e;(try simp only[e,aa,-eq_self]);clear e
 ·(have hcc:0<=cc/\cc<=10:=⟨bq.1 (thm2 c2),bq.1 (thm2 c3)⟩;have hg:=bA c0 c1 hcc;obtain rfl:=eqz c19;exact absurd c20 (by simp))
 constructor<;>intro c21
 intro e;(try simp only[e,aa,-eq_self]);clear e
 intro e;(try simp only[e,aa,-eq_self]);clear e
 constructor<;>intro c22
 intro e;(try simp only[e,aa,-eq_self]);clear e
 intro e;(try simp only[e,aa,-eq_self]);clear e
 ·(have hcc:0<=cc/\cc<=10:=⟨bq.1 (thm2 c2),bq.1 (thm2 c3)⟩;have hg:=bA c0 c1 hcc;obtain rfl:=eqz c21;have hq:=iI (by omega) hg (awe ha hb c22) (av1 ha hb c22);exact cv hq.1 hq.2)
 intro e;(try simp only[e,aa,-eq_self]);clear e
 ·(have hcc:0<=cc/\cc<=10:=⟨bq.1 (thm2 c2),bq.1 (thm2 c3)⟩;have hg:=bA c0 c1 hcc;obtain rfl:=eqz c21;have hq:=fh (cc:=8) (.inr ⟨by omega,av9 ha hb c22⟩);exact cv hq.1 hq.2)
 constructor<;>intro c23
 intro e;(try simp only[e,aa,-eq_self]);clear e
 intro e;(try simp only[e,aa,-eq_self]);clear e
 constructor<;>intro c24
 intro e;(try simp only[e,aa,-eq_self]);clear e
 intro e;(try simp only[e,aa,-eq_self]);clear e
 ·(have hcc:0<=cc/\cc<=10:=⟨bq.1 (thm2 c2),bq.1 (thm2 c3)⟩;have hg:=bA c0 c1 hcc;obtain rfl:=eqz c23;have hq:=iI (by omega) hg (awd ha hb c24) (av0 ha hb c24);exact cv hq.1 hq.2)
 intro e;(try simp only[e,aa,-eq_self]);clear e
 ·(have hcc:0<=cc/\cc<=10:=⟨bq.1 (thm2 c2),bq.1 (thm2 c3)⟩;have hg:=bA c0 c1 hcc;obtain rfl:=eqz c23;exact absurd c24 (by simp))
 intro e;(try simp only[e,aa,-eq_self]);clear e
 intro e;(try simp only[e,aa,-eq_self]);clear e
 ·(have hcc:0<=cc/\cc<=10:=⟨bq.1 (thm2 c2),bq.1 (thm2 c3)⟩;have hg:=bA c0 c1 hcc;obtain rfl:cc=10:=(by have:=nez c4;have h1:=nez c5;have h2:=nez c9;have h3:=nez c11;have h4:=nez c13;have h5:=nez c15;have h6:=nez c17;have h7:=nez c19;have h8:=nez c21;have h9:=nez c23;omega);have hq:=iI (by omega) hg (auQ ha hb) (auN ha hb);exact cv hq.1 hq.2)
 intro e;(try simp only[e,aa,-eq_self]);clear e
 ·exact cv (fh (.inl (by unfold jn;rw[c0,c1];rfl))).1 (fh (.inl (by unfold jn;rw[c0,c1];rfl))).2
 intro e;(try simp only[e,aa,-eq_self]);clear e
 ·exact cv (fh (.inl (by unfold jn;rw[c0];rfl))).1 (fh (.inl (by unfold jn;rw[c0];rfl))).2
theorem amh {sp:Spec} {key:Nat} (hF:sp.F key=lf) (hP:sp.pre key=fun _=>True:=by rfl):SmOk Tryz.prog sp (ud key):=
 aq (s:=ud key) hF hP mxo6 em (smc (kI rfl) (smc (fK rfl) (smc (ahV rfl) (smc (oV rfl) (smc (qQ rfl) (smc (qR rfl) (smc (atZ rfl) (smc (aub rfl) (smc (ahJ rfl) (smc (ahI rfl) (smc (ah1 rfl) (smc (ah0 rfl) (smc (adj rfl) (smc (ahU rfl) sm0)))))))))))))) Tryz.func149 fn0 alU (.inl rfl) (fun x0 gx0 x1 gx1 x2 gx2 x3 gx3 x4 gx4 x5 gx5 x6 gx6 x7 gx7 x8 gx8 hp U g=>alk x0 gx0 ⟨x1,x2,x3,x4⟩ ⟨gx1,gx2,gx3,gx4⟩ ⟨x5,x6,x7,x8⟩ ⟨gx5,gx6,gx7,gx8⟩ U g)
structure Sc where
 ul:Int
 uh:Int
 sl:Int
 sh:Int
 v:Int
 m:Int
def Sc.r (a:Sc):Rg:=⟨a.ul,a.uh,a.sl,a.sh⟩
def Sc.k (a:Sc):Kn:=⟨a.v,a.m⟩
def sc (r:Rg) (k:Kn):Sc:=⟨r.ul,r.uh,r.sl,r.sh,k.v,k.m⟩
theorem Sc.eta_r (a:Sc):(⟨a.ul,a.uh,a.sl,a.sh⟩:Rg)=a.r:=rfl
theorem Sc.eta_k (a:Sc):(⟨a.v,a.m⟩:Kn)=a.k:=rfl
theorem Sc.eta_2 (r:Rg) (k:Kn):(⟨r.ul,r.uh,r.sl,r.sh,k.v,k.m⟩:Sc)=sc r k:=rfl
def vmay (a:Sc):Bool:=bmay a.r&&kmay a.k
def vall:Sc:=sc ball kall
def vone (v:Int):Sc:=sc (bone v) (kone v)
def vhas (a:Sc) (x:Int):Bool:=vmay a&&(bhas a.r x&&khas a.k x)
def akg (a:Sc):Bool:=vmay a&&eN a.r
def lU (a:Sc):Int:=if vmay a=true then aC a.r else 0
def kcom (r:Rg):Kn:=eG r.ul (lR (bits .xor .u64 r.ul r.uh))
def vlo (k:Kn):Rg:=⟨k.v,bits .or .u64 k.v k.m,ball.sl,ball.sh⟩
def vs1 (a:Sc):Bool:=dM a.r (vlo a.k)
def vs2 (a:Sc):Bool:=dm a.k (kcom (fB a.r (vlo a.k)))
def vst (a:Sc):Sc:=sc (fB a.r (vlo a.k)) (gA a.k (kcom (fB a.r (vlo a.k))))
def vnok (a:Sc):Bool:=vmay a&&(vs1 a&&(vs2 a&&(vs1 (vst a)&&vs2 (vst a))))
def vnar (a:Sc):Sc:=if vnok a=true then vst (vst a) else vall
theorem vn_t {a:Sc} (h0:vmay a=true) (h1:vs1 a=true) (h2:vs2 a=true) (h3:vs1 (vst a)=true) (h4:vs2 (vst a)=true):vnar a=vst (vst a)/\vnok a=true:=by
 have h:vnok a=true:=by unfold vnok;rw[h0,h1,h2,h3,h4];rfl
 exact⟨if_pos h,h⟩
theorem vn_f {a:Sc} (h:vmay a=false\/vs1 a=false\/vs2 a=false\/vs1 (vst a)=false\/vs2 (vst a)=false):vnar a=vall/\vnok a=false:=by
 have h:vnok a=false:=by unfold vnok;rcases h with h | h | h | h | h<;>rw[h]<;>simp
 exact⟨if_neg (by rw[h];simp),h⟩
theorem asQ (a:Sc):(if vnok a=true then vnar a else vall)=vnar a:=by
 cases h:vnok a
 ·unfold vnar;rw[h];simp
 ·simp
def dr (a b:Sc):Sc:=if vmay a=true/\vmay b=true then vnar (sc (fC a.r b.r) (gB a.k b.k)) else vall
def bwid (x y:Rg):Rg:=⟨if(x.ul==y.ul)=false/\decide (y.ul<x.ul)=true then 0 else x.ul,if(x.uh==y.uh)=false/\decide (x.uh<y.uh)=true then 18446744073709551615 else x.uh,
 if(x.sl==y.sl)=false/\decide (y.sl<x.sl)=true then -9223372036854775808 else x.sl,if(x.sh==y.sh)=false/\decide (x.sh<y.sh)=true then 9223372036854775807 else x.sh⟩
def vwid (a b:Sc):Sc:=if vmay a=true/\vmay b=true then vnar (sc (bwid a.r b.r) (gB a.k b.k)) else vall
def vlow (a:Sc):Sc:=vnar (sc (blow a.r) (kcut a.k 32))
def vbel (t:Int):Sc:=vnar (sc ⟨0,t,ball.sl,ball.sh⟩ ⟨0,t⟩)
def vcap (r:Rg):Rg:=if r.uh<4294967296 then r else blow ball
def dt (op:Int) (a b:Sc):Rg:=
 if op=8\/op=12 then blow ball
 else if op=6\/op=7 then(if akg b=true then vcap (bdo op a.r (vone (opI .and .u64 (lU b) 31)).r) else blow ball)
 else vcap (bdo op a.r b.r)
def vhf (op w:Int) (a b:Sc):Sc:=sc (dt op (vlow a) (vlow b)) (kdo op w (vlow a).k (vlow b).k)
def vdo (op w:Int) (a b:Sc):Sc:=
 if okop op w=true/\vmay a=true/\vmay b=true then(if w=64 then vnar (sc (bdo op a.r b.r) (kdo op 64 a.k b.k)) else if vnok (vhf op w a b)=true then vnar (vhf op w a b) else vbel 4294967295) else vall
def vgk (cc:Int) (a b:Sc):Kn:=if cc=0 then gA a.k b.k else a.k
def vgs (cc:Int) (a b:Sc):Sc:=sc (bgiv cc a.r b.r) (vgk cc a b)
def vgok (cc:Int) (a b:Sc):Bool:=vmay a&&(vmay b&&(bgok cc a.r b.r&&((if cc=0 then dm a.k b.k else true)&&vnok (vgs cc a b))))
def vgiv (cc:Int) (a b:Sc):Sc:=if vgok cc a b=true then vnar (vgs cc a b) else vall
theorem vg_0 {cc:Int} {a b:Sc} (h0:vmay a=true) (h1:vmay b=true) (h2:bgok cc a.r b.r=true) (h3:(cc==0)=true) (h4:dm a.k b.k=true):
  vgiv cc a b=vnar (sc (bgiv cc a.r b.r) (gA a.k b.k))/\vgok cc a b=vnok (sc (bgiv cc a.r b.r) (gA a.k b.k)):=by
 obtain rfl:=eqz h3
 have e:vgok 0 a b=vnok (sc (bgiv 0 a.r b.r) (gA a.k b.k)):=by unfold vgok;rw[h0,h1,h2,if_pos rfl,h4];rfl
 refine⟨?_,e⟩
 unfold vgiv
 rw[e]
 exact asQ _
theorem vg_n {cc:Int} {a b:Sc} (h0:vmay a=true) (h1:vmay b=true) (h2:bgok cc a.r b.r=true) (h3:(cc==0)=false):
  vgiv cc a b=vnar (sc (bgiv cc a.r b.r) a.k)/\vgok cc a b=vnok (sc (bgiv cc a.r b.r) a.k):=by
 have h3:=nez h3
 have e:vgok cc a b=vnok (sc (bgiv cc a.r b.r) a.k):=by unfold vgok vgs vgk;rw[h0,h1,h2,if_neg h3,if_neg h3];rfl
 refine⟨?_,e⟩
 unfold vgiv
 rw[e]
 unfold vgs vgk
 rw[if_neg h3]
 exact asQ _
theorem vg_f {cc:Int} {a b:Sc} (h:vmay a=false\/vmay b=false\/bgok cc a.r b.r=false\/((cc==0)=true/\dm a.k b.k=false)):vgiv cc a b=vall/\vgok cc a b=false:=by
 have h:vgok cc a b=false:=by
  unfold vgok
  rcases h with h | h | h | ⟨h,h'⟩
  ·rw[h];simp
  ·rw[h];simp
  ·rw[h];simp
  ·rw[if_pos (eqz h),h'];simp
 exact⟨if_neg (by rw[h];simp),h⟩
theorem ar0 {b:Bool} (h:((if b=true then(0:Int) else 2)==0)=true):b=true:=by cases b<;>simp_all
theorem auy {b:Bool} (h:((if b=true then(0:Int) else 2)==0)=false):b=false:=by cases b<;>simp_all
theorem aS {r s:Kn} (h:r=s):[Dt.z r.v,.z r.m]=[Dt.z s.v,.z s.m]:=by rw[h]
theorem auG {r:Rg} (hr:r.wf):(⟨bits .andNot .u64 r.ul (opI .sub .u64 (opI .shl .u64 1 (opI .sub .i64 64 (64-(aE (bits .xor .u64 r.ul r.uh).toNat:Int)))) 1),opI .sub .u64 (opI .shl .u64 1 (opI .sub .i64 64 (64-(aE (bits .xor .u64 r.ul r.uh).toNat:Int)))) 1⟩:Kn)=kcom r:=by
 have hx:=vb r.ul r.uh
 have hb:aE (bits .xor .u64 r.ul r.uh).toNat<=64:=eP (by omega)
 have e:opI .sub .i64 64 (64-(aE (bits .xor .u64 r.ul r.uh).toNat:Int))=(aE (bits .xor .u64 r.ul r.uh).toNat:Int):=by
  show IntKind.i64.wrap _=_
  rw[aR];omega
 rw[e,aal hx.1 hx.2]
 rfl
theorem auH {r:Rg} (hr:r.wf) (h:decide (0<64-(aE (bits .xor .u64 r.ul r.uh).toNat:Int))=false):(⟨bits .andNot .u64 r.ul 18446744073709551615,18446744073709551615⟩:Kn)=kcom r:=by
 have h:=thm2 h
 have hx:=vb r.ul r.uh
 have hb:aE (bits .xor .u64 r.ul r.uh).toNat<=64:=eP (by omega)
 have e:lR (bits .xor .u64 r.ul r.uh)=18446744073709551615:=by
  unfold lR
  rw[show aE (bits .xor .u64 r.ul r.uh).toNat=64 by omega]
  rfl
 unfold kcom eG
 rw[e]
section
variable {op l:Int} {a b:Kn}
theorem xU (h:jm op l a b=false):kall=kdo op l a b:=by
 unfold kdo;rw[if_neg (by rw[h];simp)]
theorem kd_a (h:kmay a=false):jm op l a b=false:=by simp[jm,h]
theorem kd_b (h:kmay b=false):jm op l a b=false:=by simp[jm,h]
theorem avV (h:decide (op<0)=true):jm op l a b=false:=by
 have:=thm3 h
 simp[jm,fW (show¬0<=op by omega)]
theorem avW (h:decide (12<op)=true):jm op l a b=false:=by
 have:=thm3 h
 simp[jm,fW (show¬op<=12 by omega)]
theorem kd_w (h:(l==32)=false) (h':(l==64)=false):jm op l a b=false:=by simp[jm,nN,h,h']
theorem cu (h0:kmay a=true) (h1:kmay b=true) (h2:decide (op<0)=false) (h3:decide (12<op)=false) (h4:nN l=true):jm op l a b=true/\okop op l=true:=by
 have h2:=thm2 h2
 have h3:=thm2 h3
 simp[jm,okop,h0,h1,h4,dU (show 0<=op by omega),dU (show op<=12 by omega)]
theorem aoc (hg:jm op l a b=true/\okop op l=true) (h:(bits .or .u64 (kcut a l).m (kcut b l).m==0)=true):kone (if okop op l=true then zdo op l (kcut a l).v (kcut b l).v else 0)=kdo op l a b:=by
 unfold kdo;rw[if_pos hg.1,if_pos h,if_pos hg.2]
theorem cG {X:Kn} (hg:jm op l a b=true/\okop op l=true) (h:(bits .or .u64 (kcut a l).m (kcut b l).m==0)=false) (e:kop op l (kcut a l) (kcut b l)=X):kcut X l=kdo op l a b:=by
 unfold kdo;rw[if_pos hg.1,if_neg (by rw[h];simp),e]
theorem adw (h:op=6\/op=7\/op=12) (c:(bits .and .u64 b.m (l-1)==0)=true):kop op l a b=aob op l a b:=by
 unfold kop;rcases h with rfl | rfl | rfl<;>simp[c]
theorem adx (h:op=6\/op=7\/op=12) (c:(bits .and .u64 b.m (l-1)==0)=false):kop op l a b=kall:=by
 unfold kop;rcases h with rfl | rfl | rfl<;>simp[c]
end
theorem Kn.eta (a:Kn):(⟨a.v,a.m⟩:Kn)=a:=rfl
def Kn.ok (a:Kn):Prop:=inK .u64 a.v=true/\inK .u64 a.m=true
def kKn:List CK:=[.int .u64,.int .u64]
theorem Sc.eta (a:Sc):(⟨a.ul,a.uh,a.sl,a.sh,a.v,a.m⟩:Sc)=a:=rfl
def Sc.ok (a:Sc):Prop:=inK .u64 a.ul=true/\inK .u64 a.uh=true/\inK .i64 a.sl=true/\inK .i64 a.sh=true/\inK .u64 a.v=true/\inK .u64 a.m=true
def kSc:List CK:=[.int .u64,.int .u64,.int .i64,.int .i64,.int .u64,.int .u64]
def tys_VaA:List (Nat×TI):=[(2,tiq2),
 (42,fF),
 (44,gO),
 (46,kt),
 (48,akp)]
theorem afh:(tys_VaA.all fun p=>ckTI Tryz.prog p.1 p.2)=true:=by kernel_rfl
theorem vG:(tys_VaA.all fun p=>!p.2.eqok)=true:=by kernel_rfl
theorem aeV:(tys_VaA.all fun p=>!p.2.keyok)=true:=by kernel_rfl
theorem cj:∀t i,(t,i)∈tys_VaA->TIok Tryz.prog t i:=by
 intro t i h
 refine bB (cz (f:=ckTI Tryz.prog) afh h) (fun he=> ?_) (fun he=> ?_) (fun he=> ?_)
 ·have h1:=thm7.1 vG (t,i) h
  simp[he] at h1
 ·have h1:=thm7.1 vG (t,i) h
  simp[he] at h1
 ·have h1:=thm7.1 aeV (t,i) h
  simp[he] at h1
def ia (key:Nat):Sm:=⟨173,key,[.agg kKn],[.one .bool],false⟩
def gZ (a:Kn):List Dt:=[.z (b2i (kmay a))]
def cN:List Dt->List Dt
 | [.z x0,.z x1]=>gZ ⟨x0,x1⟩
 | _=>[]
def sT_kmay:Tr:=
(.leaf (.cb (.eq (.bin .and .u64 (.var 0) (.var 1)) (.lit 0)) .nil))
def ahf:Spec:={F:=fun k=>match k with | _=>fun _=>[],pre:=fun _ _=>True}
theorem aq6:ap tys_VaA [] [] [] [] 200 Tryz.f173 [.agg kKn] [.one .bool] false [.int .u64,.int .u64] sT_kmay:=⟨by kernel_rfl,by kernel_rfl,by kernel_rfl⟩
theorem aqo (a:Kn) (ha:Kn.ok a) (U:Env) (g:varsD U 0 [.int .u64,.int .u64]=[.z a.v,.z a.m]):sT_kmay.asks ahf (fun U e=>e.D U=cN [.z a.v,.z a.m]) U fun _ _=>False:=by
 simp only[varsD,varD,thm5,gS0,Nat.reduceAdd,and_true] at g
 simp only[sT_kmay,ahf,cN,gZ,simQ,ai,S1,Nat.reduceSub,Nat.reduceAdd,-eq_self,Kn.eta,Sc.eta_r,Sc.eta_k,Sc.eta_2,g]
 ·rfl
theorem ml {sp:Spec} {key:Nat} (hF:sp.F key=cN) (hP:sp.pre key=fun _=>True:=by rfl):SmOk Tryz.prog sp (ia key):=
 aq (s:=ia key) hF hP mxo6 cj (sm0) Tryz.func173 fn0 aq6 (.inl rfl) (fun x0 gx0 x1 gx1 hp U g=>aqo ⟨x0,x1⟩ ⟨gx0,gx1⟩ U g)
def ib (key:Nat):Sm:=⟨192,key,[],[.agg kKn],false⟩
def cO:List Dt->List Dt
 | []=>[.z kall.v,.z kall.m]
 | _=>[]
def sT_kall:Tr:=
(.leaf (.cons (.lit 0) (.cons (.lit 18446744073709551615) .nil)))
def ahj:Spec:={F:=fun k=>match k with | _=>fun _=>[],pre:=fun _ _=>True}
theorem aq9:ap tys_VaA [] [] [] [] 200 Tryz.f192 [] [.agg kKn] false [] sT_kall:=⟨by kernel_rfl,by kernel_rfl,by kernel_rfl⟩
theorem aqr (U:Env) (g:varsD U 0 []=[]):sT_kall.asks ahj (fun U e=>e.D U=cO []) U fun _ _=>False:=by
 simp only[sT_kall,ahj,cO,simQ,ai,S1,Nat.reduceSub,Nat.reduceAdd,-eq_self,Sc.eta_r,Sc.eta_k,Sc.eta_2]
 ·rfl
theorem mm {sp:Spec} {key:Nat} (hF:sp.F key=cO) (hP:sp.pre key=fun _=>True:=by rfl):SmOk Tryz.prog sp (ib key):=
 aq (s:=ib key) hF hP mxo6 cj (sm0) Tryz.func192 fn0 aq9 (.inl rfl) (fun hp U g=>aqr U g)
def oN (key:Nat):Sm:=⟨141,key,[.one (.int .u64)],[.agg kKn],false⟩
def ow (v:Int):List Dt:=[.z ((kone v).v),.z ((kone v).m)]
def gm:List Dt->List Dt
 | [.z x0]=>ow x0
 | _=>[]
def sT_kone:Tr:=
(.leaf (.cons (.var 0) (.cons (.lit 0) .nil)))
def ahd:Spec:={F:=fun k=>match k with | _=>fun _=>[],pre:=fun _ _=>True}
theorem aq4:ap tys_VaA [] [] [] [] 200 Tryz.f141 [.one (.int .u64)] [.agg kKn] false [.int .u64] sT_kone:=⟨by kernel_rfl,by kernel_rfl,by kernel_rfl⟩
theorem aqm (v:Int) (hv:inK .u64 v=true) (U:Env) (g:varsD U 0 [.int .u64]=[.z v]):sT_kone.asks ahd (fun U e=>e.D U=gm [.z v]) U fun _ _=>False:=by
 simp only[varsD,varD,thm5,gS0,Nat.reduceAdd,and_true] at g
 simp only[sT_kone,ahd,gm,ow,simQ,ai,S1,Nat.reduceSub,Nat.reduceAdd,-eq_self,Sc.eta_r,Sc.eta_k,Sc.eta_2,g]
 ·rfl
theorem zF {sp:Spec} {key:Nat} (hF:sp.F key=gm) (hP:sp.pre key=fun _=>True:=by rfl):SmOk Tryz.prog sp (oN key):=
 aq (s:=oN key) hF hP mxo6 cj (sm0) Tryz.func141 fn0 aq4 (.inl rfl) (fun x0 gx0 hp U g=>aqm x0 gx0 U g)
def dY (key:Nat):Sm:=⟨202,key,[.one (.int .u64),.one (.int .u64)],[.agg kKn],false⟩
def dW (v:Int) (m:Int):List Dt:=[.z ((eG v m).v),.z ((eG v m).m)]
def bE:List Dt->List Dt
 | [.z x0,.z x1]=>dW x0 x1
 | _=>[]
def sT_kmask:Tr:=
(.leaf (.cons (.bin .andNot .u64 (.var 0) (.var 1)) (.cons (.var 1) .nil)))
def abx:Spec:={F:=fun k=>match k with | _=>fun _=>[],pre:=fun _ _=>True}
theorem alN:ap tys_VaA [] [] [] [] 200 Tryz.f202 [.one (.int .u64),.one (.int .u64)] [.agg kKn] false [.int .u64,.int .u64] sT_kmask:=⟨by kernel_rfl,by kernel_rfl,by kernel_rfl⟩
theorem ald (v:Int) (hv:inK .u64 v=true) (m:Int) (hm:inK .u64 m=true) (U:Env) (g:varsD U 0 [.int .u64,.int .u64]=[.z v,.z m]):sT_kmask.asks abx (fun U e=>e.D U=bE [.z v,.z m]) U fun _ _=>False:=by
 simp only[varsD,varD,thm5,gS0,Nat.reduceAdd,and_true] at g
 simp only[sT_kmask,abx,bE,dW,simQ,ai,S1,Nat.reduceSub,Nat.reduceAdd,-eq_self,Sc.eta_r,Sc.eta_k,Sc.eta_2,g]
 ·rfl
theorem gg {sp:Spec} {key:Nat} (hF:sp.F key=bE) (hP:sp.pre key=fun _=>True:=by rfl):SmOk Tryz.prog sp (dY key):=
 aq (s:=dY key) hF hP mxo6 cj (sm0) Tryz.func202 fn0 alN (.inl rfl) (fun x0 gx0 x1 gx1 hp U g=>ald x0 gx0 x1 gx1 U g)
def kE (key:Nat):Sm:=⟨154,key,[.agg kKn,.agg kKn],[.agg kKn],false⟩
def kz (a:Kn) (b:Kn):List Dt:=[.z ((gB a b).v),.z ((gB a b).m)]
def dZ:List Dt->List Dt
 | [.z x0,.z x1,.z x2,.z x3]=>kz ⟨x0,x1⟩ ⟨x2,x3⟩
 | _=>[]
def sT_kjoin:Tr:=
(.call 0 [.bool] (.vs 0 2 .nil) 4
(.br (.bw 4)
(.call 0 [.bool] (.vs 2 2 .nil) 5
(.br (.bw 5)
(.call 2 (kKn) (.cons (.var 0) (.cons (.bin .or .u64 (.bin .or .u64 (.var 1) (.var 3)) (.bin .xor .u64 (.var 0) (.var 2))) .nil)) 6
(.leaf (.vs 6 2 .nil)))
(.call 1 (kKn) .nil 6
(.leaf (.vs 6 2 .nil)))))
(.call 1 (kKn) .nil 5
(.leaf (.vs 5 2 .nil)))))
def aby:Spec:={F:=fun k=>match k with | 0=>cN | 1=>cO | 2=>bE | _=>fun _=>[],pre:=fun _ _=>True}
theorem alO:ap tys_VaA [ia 0,ib 1,dY 2] [] [] [] 200 Tryz.f154 [.agg kKn,.agg kKn] [.agg kKn] false [.int .u64,.int .u64,.int .u64,.int .u64] sT_kjoin:=⟨by kernel_rfl,by kernel_rfl,by kernel_rfl⟩
def aI:=And.intro Kn.eta (And.intro Pi.eta (And.intro Pu.eta (And.intro Rg.eta (And.intro Sc.eta (And.intro Sc.eta_r (And.intro Sc.eta_k (Sc.eta_2)))))))
theorem ale (a:Kn) (ha:Kn.ok a) (b:Kn) (hb:Kn.ok b) (U:Env) (g:varsD U 0 [.int .u64,.int .u64,.int .u64,.int .u64]=[.z a.v,.z a.m,.z b.v,.z b.m]):sT_kjoin.asks aby (fun U e=>e.D U=dZ [.z a.v,.z a.m,.z b.v,.z b.m]) U fun _ _=>False:=by
 simp only[varsD,varD,thm5,gS0,Nat.reduceAdd,and_true] at g
 simp only[sT_kjoin,aby,kKn,cN,cO,bE,gZ,dW,dZ,kz,simQ,ai,S1,Nat.reduceSub,Nat.reduceAdd,-eq_self,aI,g]
 intro e;(try simp only[e,aI,-eq_self]);clear e
 constructor<;>intro c0
 intro e;(try simp only[e,aI,-eq_self]);clear e
 constructor<;>intro c1
 intro e;(try simp only[e,aI,-eq_self]);clear e
 ·(unfold gB;simp_all [opI])
 intro e;(try simp only[e,aI,-eq_self]);clear e
 ·(unfold gB;simp_all [opI])
 intro e;(try simp only[e,aI,-eq_self]);clear e
 ·(unfold gB;simp_all [opI])
theorem uf {sp:Spec} {key:Nat} (hF:sp.F key=dZ) (hP:sp.pre key=fun _=>True:=by rfl):SmOk Tryz.prog sp (kE key):=
 aq (s:=kE key) hF hP mxo6 cj (smc (ml rfl) (smc (mm rfl) (smc (gg rfl) sm0))) Tryz.func154 fn0 alO (.inl rfl) (fun x0 gx0 x1 gx1 x2 gx2 x3 gx3 hp U g=>ale ⟨x0,x1⟩ ⟨gx0,gx1⟩ ⟨x2,x3⟩ ⟨gx2,gx3⟩ U g)
def nC (key:Nat):Sm:=⟨150,key,[.agg kKn,.agg kKn],[.agg kKn,.one .bool],true⟩
def nv (a:Kn) (b:Kn):List Dt:=[.z ((gA a b).v),.z ((gA a b).m),.z (b2i (dm a b))]
def gp:List Dt->List Dt
 | [.z x0,.z x1,.z x2,.z x3]=>nv ⟨x0,x1⟩ ⟨x2,x3⟩
 | _=>[]
def ao8:Tr:=(.call 1 (kKn) .nil 6
(.leaf (.vs 6 2 (.cb (.tt false) .nil))))
def sT_kmeet:Tr:=
(.call 0 [.bool] (.vs 0 2 .nil) 4
(.br (.bw 4)
(.call 0 [.bool] (.vs 2 2 .nil) 5
(.br (.bw 5)
(.br (.eq (.bin .andNot .u64 (.bin .xor .u64 (.var 0) (.var 2)) (.bin .or .u64 (.var 1) (.var 3))) (.lit 0))
(.call 2 (kKn) (.cons (.bin .or .u64 (.var 0) (.var 2)) (.cons (.bin .and .u64 (.var 1) (.var 3)) .nil)) 6
(.leaf (.vs 6 2 (.cb (.tt true) .nil))))
 ao8)
 ao8))
(.call 1 (kKn) .nil 5
(.leaf (.vs 5 2 (.cb (.tt false) .nil))))))
def abw:Spec:={F:=fun k=>match k with | 0=>cN | 1=>cO | 2=>bE | _=>fun _=>[],pre:=fun _ _=>True}
theorem alM:ap tys_VaA [ia 0,ib 1,dY 2] [] [] [] 200 Tryz.f150 [.agg kKn,.agg kKn] [.agg kKn,.one .bool] true [.int .u64,.int .u64,.int .u64,.int .u64] sT_kmeet:=⟨by kernel_rfl,by kernel_rfl,by kernel_rfl⟩
theorem alc (a:Kn) (ha:Kn.ok a) (b:Kn) (hb:Kn.ok b) (U:Env) (g:varsD U 0 [.int .u64,.int .u64,.int .u64,.int .u64]=[.z a.v,.z a.m,.z b.v,.z b.m]):sT_kmeet.asks abw (fun U e=>e.D U=gp [.z a.v,.z a.m,.z b.v,.z b.m]) U fun _ _=>False:=by
 simp only[varsD,varD,thm5,gS0,Nat.reduceAdd,and_true] at g
 simp only[sT_kmeet,ao8,abw,kKn,cN,cO,bE,gZ,dW,gp,nv,simQ,ai,S1,Nat.reduceSub,Nat.reduceAdd,-eq_self,aI,g]
 intro e;(try simp only[e,aI,-eq_self]);clear e
 constructor<;>intro c0
 intro e;(try simp only[e,aI,-eq_self]);clear e
 constructor<;>intro c1
 constructor<;>intro c2
 intro e;(try simp only[e,aI,-eq_self]);clear e
 ·(unfold gA dm aaa;simp_all [opI])
 intro e;(try simp only[e,aI,-eq_self]);clear e
 ·(unfold gA dm aaa;simp_all [opI])
 intro e;(try simp only[e,aI,-eq_self]);clear e
 ·(unfold gA dm aaa;simp_all [opI])
 intro e;(try simp only[e,aI,-eq_self]);clear e
 ·(unfold gA dm aaa;simp_all [opI])
theorem abL {sp:Spec} {key:Nat} (hF:sp.F key=gp) (hP:sp.pre key=fun _=>True:=by rfl):SmOk Tryz.prog sp (nC key):=
 aq (s:=nC key) hF hP mxo6 cj (smc (ml rfl) (smc (mm rfl) (smc (gg rfl) sm0))) Tryz.func150 fn0 alM (.inl rfl) (fun x0 gx0 x1 gx1 x2 gx2 x3 gx3 hp U g=>alc ⟨x0,x1⟩ ⟨gx0,gx1⟩ ⟨x2,x3⟩ ⟨gx2,gx3⟩ U g)
def oT (key:Nat):Sm:=⟨64,key,[.one (.int .u64),.one (.int .i8)],[.one (.int .u64)],false⟩
def oB (x:Int) (l:Int):List Dt:=[.z (zcut x l)]
def mq:List Dt->List Dt
 | [.z x0,.z x1]=>oB x0 x1
 | _=>[]
theorem aqy (x:Int) (hx:inK .u64 x=true) (l:Int) (hl:inK .i8 l=true):(∀w,Calls Tryz.prog 64 #[.int .u64 x,.int .i8 l] w fun e w'=>e=.returned (.int .u64 (zcut x l))/\Ext w w')/\jC (.int .u64 (zcut x l))=true:=by
 have g:=cR hx
 have hz:=rY (gS x l g.1 g.2)
 exact⟨fun W=>(aju x l W g.1 g.2).mono (by rintro e w' ⟨rfl,rfl⟩;exact⟨rfl,Ext.refl _⟩),hz⟩
theorem arB {sp:Spec} {key:Nat} (hF:sp.F key=mq):SmOk Tryz.prog sp (oT key):=by
 refine SmOk.pure hF rfl rfl fun xs vals w h=> ?_
 obtain⟨_,_,_,rfl,⟨x0,rfl,rfl,gx0⟩,h⟩:=h
 obtain⟨_,_,_,rfl,⟨x1,rfl,rfl,gx1⟩,h⟩:=h
 obtain⟨rfl,rfl⟩:=h
 have q:=aqy x0 gx0 x1 gx1
 refine⟨_,.inr ⟨dG Tryz.func64 (by kernel_rfl) (by kernel_rfl) _ w,q.1 w⟩,?_,fun U v0 nid j he=> ?_⟩
 ·have q2:=q.2
  simp[jC,iD,iO] at q2
  simp[oT,mq,oB,List.flatMap_cons,List.flatMap_nil,Sh.cks,List.append_nil,List.cons_append,List.nil_append,b2i_one,fQ,q2]
 ·simp only[oT,mq,oB,List.flatMap_cons,List.flatMap_nil,Sh.cks,List.append_nil,List.cons_append,List.nil_append,b2i_one,eqs,dI,dB,bT,nm,bt,Nat.add_zero,Nat.reduceAdd,and_true] at he
  simp[oT,mq,oB,List.flatMap_cons,List.flatMap_nil,Sh.cks,List.append_nil,List.cons_append,List.nil_append,b2i_one,fP,bo,aH,V.den,C.den,denL,den0,bN,E.I,E.B,he]
def tX (key:Nat):Sm:=⟨226,key,[.agg kKn,.one (.int .i8)],[.agg kKn],false⟩
def sZ (a:Kn) (l:Int):List Dt:=[.z ((kcut a l).v),.z ((kcut a l).m)]
def jP:List Dt->List Dt
 | [.z x0,.z x1,.z x2]=>sZ ⟨x0,x1⟩ x2
 | _=>[]
def sT_kcut:Tr:=
(.call 0 [.bool] (.vs 0 2 .nil) 3
(.br (.bw 3)
(.call 2 [.int .u64] (.cons (.var 0) (.cons (.var 2) .nil)) 4
(.call 2 [.int .u64] (.vs 1 2 .nil) 5
(.leaf (.vs 4 2 .nil))))
(.call 1 (kKn) .nil 4
(.leaf (.vs 4 2 .nil)))))
def ahg:Spec:={F:=fun k=>match k with | 0=>cN | 1=>cO | 2=>mq | _=>fun _=>[],pre:=fun _ _=>True}
theorem aq7:ap tys_VaA [ia 0,ib 1,oT 2] [] [] [] 200 Tryz.f226 [.agg kKn,.one (.int .i8)] [.agg kKn] false [.int .u64,.int .u64,.int .i8] sT_kcut:=⟨by kernel_rfl,by kernel_rfl,by kernel_rfl⟩
theorem aqp (a:Kn) (ha:Kn.ok a) (l:Int) (hl:inK .i8 l=true) (U:Env) (g:varsD U 0 [.int .u64,.int .u64,.int .i8]=[.z a.v,.z a.m,.z l]):sT_kcut.asks ahg (fun U e=>e.D U=jP [.z a.v,.z a.m,.z l]) U fun _ _=>False:=by
 simp only[varsD,varD,thm5,gS0,Nat.reduceAdd,and_true] at g
 simp only[sT_kcut,ahg,kKn,cN,cO,mq,gZ,oB,jP,sZ,simQ,ai,S1,Nat.reduceSub,Nat.reduceAdd,-eq_self,aI,g]
 intro e;(try simp only[e,aI,-eq_self]);clear e
 constructor<;>intro c0
 intro e;(try simp only[e,aI,-eq_self]);clear e
 intro e;(try simp only[e,aI,-eq_self]);clear e
 ·(unfold kcut;simp_all)
 intro e;(try simp only[e,aI,-eq_self]);clear e
 ·(unfold kcut;simp_all)
theorem ahY {sp:Spec} {key:Nat} (hF:sp.F key=jP) (hP:sp.pre key=fun _=>True:=by rfl):SmOk Tryz.prog sp (tX key):=
 aq (s:=tX key) hF hP mxo6 cj (smc (ml rfl) (smc (mm rfl) (smc (arB rfl) sm0))) Tryz.func226 fn0 aq7 (.inl rfl) (fun x0 gx0 x1 gx1 x2 gx2 hp U g=>aqp ⟨x0,x1⟩ ⟨gx0,gx1⟩ x2 gx2 U g)
def ge (key:Nat):Sm:=⟨108,key,[.agg kSc],[.one .bool],false⟩
def fZ (a:Sc):List Dt:=[.z (b2i (vmay a))]
def cp:List Dt->List Dt
 | [.z x0,.z x1,.z x2,.z x3,.z x4,.z x5]=>fZ ⟨x0,x1,x2,x3,x4,x5⟩
 | _=>[]
def sT_vmay:Tr:=
(.call 0 [.bool] (.vs 0 4 .nil) 6
(.br (.bw 6)
(.call 1 [.bool] (.vs 4 2 .nil) 7
(.leaf (.cb (.bw 7) .nil)))
(.leaf (.cb (.tt false) .nil))))
def agP:Spec:={F:=fun k=>match k with | 0=>cE | 1=>cN | _=>fun _=>[],pre:=fun _ _=>True}
theorem aqH:ap tys_VaA [hZ 0,ia 1] [] [] [] 200 Tryz.f108 [.agg kSc] [.one .bool] false [.int .u64,.int .u64,.int .i64,.int .i64,.int .u64,.int .u64] sT_vmay:=⟨by kernel_rfl,by kernel_rfl,by kernel_rfl⟩
theorem apZ (a:Sc) (ha:Sc.ok a) (U:Env) (g:varsD U 0 [.int .u64,.int .u64,.int .i64,.int .i64,.int .u64,.int .u64]=[.z a.ul,.z a.uh,.z a.sl,.z a.sh,.z a.v,.z a.m]):sT_vmay.asks agP (fun U e=>e.D U=cp [.z a.ul,.z a.uh,.z a.sl,.z a.sh,.z a.v,.z a.m]) U fun _ _=>False:=by
 simp only[varsD,varD,thm5,gS0,Nat.reduceAdd,and_true] at g
 simp only[sT_vmay,agP,cE,cN,gY,gZ,cp,fZ,simQ,ai,S1,Nat.reduceSub,Nat.reduceAdd,-eq_self,aI,g]
 intro e;(try simp only[e,aI,-eq_self]);clear e
 constructor<;>intro c0
 intro e;(try simp only[e,aI,-eq_self]);clear e
 ·(unfold vmay;simp_all)
 ·(unfold vmay;simp_all)
theorem jH {sp:Spec} {key:Nat} (hF:sp.F key=cp) (hP:sp.pre key=fun _=>True:=by rfl):SmOk Tryz.prog sp (ge key):=
 aq (s:=ge key) hF hP mxo6 cj (smc (kI rfl) (smc (ml rfl) sm0)) Tryz.func108 fn0 aqH (.inl rfl) (fun x0 gx0 x1 gx1 x2 gx2 x3 gx3 x4 gx4 x5 gx5 hp U g=>apZ ⟨x0,x1,x2,x3,x4,x5⟩ ⟨gx0,gx1,gx2,gx3,gx4,gx5⟩ U g)
def hE (key:Nat):Sm:=⟨148,key,[],[.agg kSc],false⟩
def cM:List Dt->List Dt
 | []=>[.z vall.ul,.z vall.uh,.z vall.sl,.z vall.sh,.z vall.v,.z vall.m]
 | _=>[]
def sT_vall:Tr:=
(.call 0 (kRg) .nil 0
(.call 1 (kKn) .nil 4
(.leaf (.vs 0 6 .nil))))
def agX:Spec:={F:=fun k=>match k with | 0=>bF | 1=>cO | _=>fun _=>[],pre:=fun _ _=>True}
theorem aqP:ap tys_VaA [eu 0,ib 1] [] [] [] 200 Tryz.f148 [] [.agg kSc] false [] sT_vall:=⟨by kernel_rfl,by kernel_rfl,by kernel_rfl⟩
theorem ap7 (U:Env) (g:varsD U 0 []=[]):sT_vall.asks agX (fun U e=>e.D U=cM []) U fun _ _=>False:=by
 simp only[sT_vall,agX,kKn,kRg,bF,cO,cM,simQ,ai,S1,Nat.reduceSub,Nat.reduceAdd,-eq_self,aI]
 intro e;(try simp only[e,aI,-eq_self]);clear e
 intro e;(try simp only[e,aI,-eq_self]);clear e
 ·rfl
theorem mi {sp:Spec} {key:Nat} (hF:sp.F key=cM) (hP:sp.pre key=fun _=>True:=by rfl):SmOk Tryz.prog sp (hE key):=
 aq (s:=hE key) hF hP mxo6 cj (smc (fK rfl) (smc (mm rfl) sm0)) Tryz.func148 fn0 aqP (.inl rfl) (fun hp U g=>ap7 U g)
def jG (key:Nat):Sm:=⟨76,key,[.one (.int .u64)],[.agg kSc],false⟩
def oh (v:Int):List Dt:=[.z ((vone v).ul),.z ((vone v).uh),.z ((vone v).sl),.z ((vone v).sh),.z ((vone v).v),.z ((vone v).m)]
def dc:List Dt->List Dt
 | [.z x0]=>oh x0
 | _=>[]
def sT_vone:Tr:=
(.call 0 (kRg) (.cons (.var 0) .nil) 1
(.call 1 (kKn) (.cons (.var 0) .nil) 5
(.leaf (.vs 1 6 .nil))))
def agN:Spec:={F:=fun k=>match k with | 0=>xg | 1=>gm | _=>fun _=>[],pre:=fun _ _=>True}
theorem aqF:ap tys_VaA [ahw 0,oN 1] [] [] [] 200 Tryz.f76 [.one (.int .u64)] [.agg kSc] false [.int .u64] sT_vone:=⟨by kernel_rfl,by kernel_rfl,by kernel_rfl⟩
theorem apX (v:Int) (hv:inK .u64 v=true) (U:Env) (g:varsD U 0 [.int .u64]=[.z v]):sT_vone.asks agN (fun U e=>e.D U=dc [.z v]) U fun _ _=>False:=by
 simp only[varsD,varD,thm5,gS0,Nat.reduceAdd,and_true] at g
 simp only[sT_vone,agN,kKn,kRg,xg,gm,agq,ow,dc,oh,simQ,ai,S1,Nat.reduceSub,Nat.reduceAdd,-eq_self,aI,g]
 intro e;(try simp only[e,aI,-eq_self]);clear e
 intro e;(try simp only[e,aI,-eq_self]);clear e
 ·rfl
theorem oU {sp:Spec} {key:Nat} (hF:sp.F key=dc) (hP:sp.pre key=fun _=>True:=by rfl):SmOk Tryz.prog sp (jG key):=
 aq (s:=jG key) hF hP mxo6 cj (smc (at5 rfl) (smc (zF rfl) sm0)) Tryz.func76 fn0 aqF (.inl rfl) (fun x0 gx0 hp U g=>apX x0 gx0 U g)
def mh (key:Nat):Sm:=⟨235,key,[.agg kSc],[.one (.int .u64),.one .bool],true⟩
def mc (a:Sc):List Dt:=[.z (lU a),.z (b2i (akg a))]
def fL:List Dt->List Dt
 | [.z x0,.z x1,.z x2,.z x3,.z x4,.z x5]=>mc ⟨x0,x1,x2,x3,x4,x5⟩
 | _=>[]
def sT_vsingle:Tr:=
(.call 0 [.bool] (.vs 0 6 .nil) 6
(.br (.bw 6)
(.call 1 [.int .u64,.bool] (.vs 0 4 .nil) 7
(.leaf (.cons (.var 7) (.cb (.bw 8) .nil))))
(.leaf (.cons (.lit 0) (.cb (.tt false) .nil)))))
def qO:Spec:={F:=fun k=>match k with | 0=>cp | 1=>dd | _=>fun _=>[],pre:=fun _ _=>True}
theorem adg:ap tys_VaA [ge 0,hJ 1] [] [] [] 200 Tryz.f235 [.agg kSc] [.one (.int .u64),.one .bool] true [.int .u64,.int .u64,.int .i64,.int .i64,.int .u64,.int .u64] sT_vsingle:=⟨by kernel_rfl,by kernel_rfl,by kernel_rfl⟩
theorem ade (a:Sc) (ha:Sc.ok a) (U:Env) (g:varsD U 0 [.int .u64,.int .u64,.int .i64,.int .i64,.int .u64,.int .u64]=[.z a.ul,.z a.uh,.z a.sl,.z a.sh,.z a.v,.z a.m]):sT_vsingle.asks qO (fun U e=>e.D U=fL [.z a.ul,.z a.uh,.z a.sl,.z a.sh,.z a.v,.z a.m]) U fun _ _=>False:=by
 simp only[varsD,varD,thm5,gS0,Nat.reduceAdd,and_true] at g
 simp only[sT_vsingle,qO,cp,dd,fZ,gX,fL,mc,simQ,ai,S1,Nat.reduceSub,Nat.reduceAdd,-eq_self,aI,g]
 intro e;(try simp only[e,aI,-eq_self]);clear e
 constructor<;>intro c0
 intro e;(try simp only[e,aI,-eq_self]);clear e
 ·(unfold lU akg;simp_all)
 ·(unfold lU akg;simp_all)
theorem adi {sp:Spec} {key:Nat} (hF:sp.F key=fL) (hP:sp.pre key=fun _=>True:=by rfl):SmOk Tryz.prog sp (mh key):=
 aq (s:=mh key) hF hP mxo6 cj (smc (jH rfl) (smc (oV rfl) sm0)) Tryz.func235 fn0 adg (.inl rfl) (fun x0 gx0 x1 gx1 x2 gx2 x3 gx3 x4 gx4 x5 gx5 hp U g=>ade ⟨x0,x1,x2,x3,x4,x5⟩ ⟨gx0,gx1,gx2,gx3,gx4,gx5⟩ U g)
theorem Kn.wf_of {a:Kn} (h:a.ok):a.wf:=⟨cR h.1,cR h.2⟩
structure Sc.wf (a:Sc):Prop where
 r:a.r.wf
 k:a.k.wf
theorem Sc.wf_of {a:Sc} (h:a.ok):a.wf:=by
 obtain⟨h1,h2,h3,h4,h5,h6⟩:=h
 exact⟨⟨cR h1,cR h2,gC h3,gC h4⟩,⟨cR h5,cR h6⟩⟩
structure Ty where
 k:Int
 ul:Int
 uh:Int
 sl:Int
 sh:Int
 v:Int
 m:Int
 lo:Int
 hi:Int
def Ty.s (t:Ty):Sc:=⟨t.ul,t.uh,t.sl,t.sh,t.v,t.m⟩
def ty (k:Int) (s:Sc) (lo hi:Int):Ty:=⟨k,s.ul,s.uh,s.sl,s.sh,s.v,s.m,lo,hi⟩
theorem Ty.eta_s (t:Ty):(⟨t.ul,t.uh,t.sl,t.sh,t.v,t.m⟩:Sc)=t.s:=rfl
structure Sta where
 r0:Ty
 r1:Ty
 r2:Ty
 r3:Ty
 r4:Ty
 r5:Ty
 r6:Ty
 r7:Ty
 r8:Ty
 r9:Ty
 r10:Ty
 s0:Ty
 s1:Ty
 s2:Ty
 s3:Ty
 s4:Ty
 s5:Ty
 s6:Ty
 s7:Ty
def tnil:Ty:=⟨0,0,0,0,0,0,0,0,0⟩
def tscal:Ty:=ty 1 vall 0 0
def cX (t:Ty):Bool:=(t.ul==0)&&((t.uh==0)&&((t.sl==0)&&((t.sh==0)&&((t.v==0)&&(t.m==0)))))
def tok (t:Ty):Bool:=
 if t.k=0 then cX t&&((t.lo==0)&&(t.hi==0))
 else if t.k=1 then vmay t.s&&((t.lo==0)&&(t.hi==0))
 else if t.k=2\/t.k=3 then cX t&&(decide (t.lo<=t.hi)&&(decide (-1048576<=t.lo)&&decide (t.hi<=1048576)))
 else false
def tset (t:Ty):Bool:=tok t &&!(t.k==0)
def smay (s:Sta):Bool:=
 tok s.r0&&(tok s.r1&&(tok s.r2&&(tok s.r3&&(tok s.r4&&(tok s.r5&&(tok s.r6&&(tok s.r7&&(tok s.r8&&(tok s.r9&&(tok s.r10&&
 (tset s.s0&&(tset s.s1&&(tset s.s2&&(tset s.s3&&(tset s.s4&&(tset s.s5&&(tset s.s6&&tset s.s7)))))))))))))))))
def avC (t:Ty):Int:=if t.k=2 then 2097152 else 3145728
def toff (t:Ty) (v:Int):Int:=IntKind.i64.wrap (IntKind.u64.wrap (v-avC t))
def avA (t:Ty) (v:Int):Bool:=
 tok t&&(if t.k=0 then true else if t.k=1 then vhas t.s v else(decide (t.lo<=toff t v)&&decide (toff t v<=t.hi)))
theorem vO {t:Ty} (h:tok t=true):t.k=0\/t.k=1\/t.k=2\/t.k=3:=by
 unfold tok at h
 split at h
 ·exact .inl ‹_›
 split at h
 ·exact .inr (.inl ‹_›)
 split at h
 ·rename_i h2;exact .inr (.inr h2)
 ·cases h
def gJ:Sta:=⟨tnil,⟨2,0,0,0,0,0,0,0,0⟩,tnil,tnil,tnil,tnil,tnil,tnil,tnil,tnil,⟨3,0,0,0,0,0,0,64,64⟩,
 ty 1 (vone 0) 0 0,ty 1 (vone 0) 0 0,ty 1 (vone 0) 0 0,ty 1 (vone 0) 0 0,ty 1 (vone 0) 0 0,ty 1 (vone 0) 0 0,ty 1 (vone 0) 0 0,ty 1 (vone 0) 0 0⟩
def tlo (w:Bool) (a b:Ty):Int:=if w=true/\min a.lo b.lo<a.lo then -1048576 else min a.lo b.lo
def thi (w:Bool) (a b:Ty):Int:=if w=true/\a.hi<max a.hi b.hi then 1048576 else max a.hi b.hi
def dl (w t:Bool) (a b:Ty):Ty:=
 if a.k=0\/b.k=0 then tnil
 else if a.k≠b.k then tscal
 else if a.k=1 then ty 1 (if w=true then vwid a.s b.s else dr a.s b.s) 0 0
 else⟨a.k,0,0,0,0,0,0,tlo t a b,thi t a b⟩
def cA (w:Bool) (a b:Ty):Ty:=dl w w a b
def smap (w:Bool) (a b:Sta):Sta:=⟨cA w a.r0 b.r0,cA w a.r1 b.r1,cA w a.r2 b.r2,cA w a.r3 b.r3,cA w a.r4 b.r4,cA w a.r5 b.r5,cA w a.r6 b.r6,cA w a.r7 b.r7,cA w a.r8 b.r8,cA w a.r9 b.r9,cA w a.r10 b.r10,
 cA w a.s0 b.s0,cA w a.s1 b.s1,cA w a.s2 b.s2,cA w a.s3 b.s3,cA w a.s4 b.s4,cA w a.s5 b.s5,cA w a.s6 b.s6,cA w a.s7 b.s7⟩
def snil:Sta:=⟨tnil,tnil,tnil,tnil,tnil,tnil,tnil,tnil,tnil,tnil,tnil,tnil,tnil,tnil,tnil,tnil,tnil,tnil,tnil⟩
def jF (w:Bool) (a b:Sta):Sta:=if smay a=true/\smay b=true then smap w a b else snil
def serr (a b:Sta):Int:=if smay a=true/\smay b=true then 0 else 2
theorem tj_a {w t:Bool} {a b:Ty} (h:(a.k==0)=true):dl w t a b=tnil:=by unfold dl;rw[if_pos (.inl (by simpa using h))]
theorem tj_b {w t:Bool} {a b:Ty} (h:(b.k==0)=true):dl w t a b=tnil:=by unfold dl;rw[if_pos (.inr (by simpa using h))]
theorem apB {w t:Bool} {a b:Ty} (h0:(a.k==0)=false) (h1:(b.k==0)=false) (h2:(a.k==b.k)=false):dl w t a b=tscal:=by
 unfold dl;rw[if_neg (by simp at h0 h1;simp[h0,h1]),if_pos (by simpa using h2)]
theorem tj_1 {w t:Bool} {a b:Ty} (h0:(a.k==0)=false) (h1:(b.k==0)=false) (h2:(a.k==b.k)=true) (h3:(a.k==1)=true):dl w t a b=ty a.k (if w=true then vwid a.s b.s else dr a.s b.s) 0 0:=by
 have e:a.k=1:=by simpa using h3
 unfold dl;rw[if_neg (by simp at h0 h1;simp[h0,h1]),if_neg (by simpa using h2),if_pos e,e]
theorem tj_p {w t:Bool} {a b:Ty} (h0:(a.k==0)=false) (h1:(b.k==0)=false) (h2:(a.k==b.k)=true) (h3:(a.k==1)=false):dl w t a b=⟨a.k,0,0,0,0,0,0,tlo t a b,thi t a b⟩:=by
 unfold dl;rw[if_neg (by simp at h0 h1;simp[h0,h1]),if_neg (by simpa using h2),if_neg (by simpa using h3)]
theorem akn {t:Bool} {a b:Ty} (h:t=true) (h2:decide (min a.lo b.lo<a.lo)=true):tlo t a b = -1048576:=by unfold tlo;rw[if_pos ⟨h,thm3 h2⟩]
theorem ako {t:Bool} {a b:Ty} (h2:decide (min a.lo b.lo<a.lo)=false):tlo t a b=min a.lo b.lo:=by unfold tlo;rw[if_neg (fun q=>thm2 h2 q.2)]
theorem asX {t:Bool} {a b:Ty} (h:t=false):tlo t a b=min a.lo b.lo:=by unfold tlo;rw[if_neg (fun q=>by rw[h] at q;cases q.1)]
theorem akq {t:Bool} {a b:Ty} (h:t=true) (h2:decide (a.hi<max a.hi b.hi)=true):thi t a b=1048576:=by unfold thi;rw[if_pos ⟨h,thm3 h2⟩]
theorem akr {t:Bool} {a b:Ty} (h2:decide (a.hi<max a.hi b.hi)=false):thi t a b=max a.hi b.hi:=by unfold thi;rw[if_neg (fun q=>thm2 h2 q.2)]
theorem as0 {t:Bool} {a b:Ty} (h:t=false):thi t a b=max a.hi b.hi:=by unfold thi;rw[if_neg (fun q=>by rw[h] at q;cases q.1)]
theorem qL {w:Bool} {a b:Sta} (h:smay a=true) (h2:smay b=true):jF w a b=smap w a b/\serr a b=0:=⟨if_pos ⟨h,h2⟩,if_pos ⟨h,h2⟩⟩
theorem wm {w:Bool} {a b:Sta} (h:smay a=false\/smay b=false):jF w a b=snil/\serr a b=2:=by
 have:¬(smay a=true/\smay b=true):=by rcases h with h | h<;>simp[h]
 exact⟨if_neg this,if_neg this⟩
def tise (b:Ty):Bool:=(b.k==tscal.k)&&((b.ul==tscal.ul)&&((b.uh==tscal.uh)&&((b.sl==tscal.sl)&&((b.sh==tscal.sh)&&((b.v==tscal.v)&&((b.m==tscal.m)&&((b.lo==tscal.lo)&&(b.hi==tscal.hi))))))))
def twi (a b:Ty):Bool:=
 if(b.k==0)=true then true else if(a.k==0)=true then false else if tise b=true then true else if(a.k==b.k)=false then false
 else if(a.k==1)=true then(bin a.s.r b.s.r&&kin a.s.k b.s.k) else(decide (b.lo<=a.lo)&&decide (a.hi<=b.hi))
theorem apz {a b:Ty} (h:(b.k==0)=true):twi a b=true:=by unfold twi;rw[if_pos h]
theorem avz {a b:Ty} (h:(b.k==0)=false) (h1:(a.k==0)=true):twi a b=false:=by unfold twi;rw[if_neg (by rw[h];simp),if_pos h1]
theorem apy {a b:Ty} (h:(b.k==0)=false) (h1:(a.k==0)=false) (h2:tise b=true):twi a b=true:=by unfold twi;rw[if_neg (by rw[h];simp),if_neg (by rw[h1];simp),if_pos h2]
theorem rZ {a b:Ty} (h:(b.k==0)=false) (h1:(a.k==0)=false) (h2:tise b=false) (h3:(a.k==b.k)=false):twi a b=false:=by unfold twi;rw[if_neg (by rw[h];simp),if_neg (by rw[h1];simp),if_neg (by rw[h2];simp),if_pos h3]
theorem qq {a b:Ty} (h:(b.k==0)=false) (h1:(a.k==0)=false) (h2:tise b=false) (h3:(a.k==b.k)=true) (h4:(a.k==1)=true):twi a b=(bin a.s.r b.s.r&&kin a.s.k b.s.k):=by
 unfold twi;rw[if_neg (by rw[h];simp),if_neg (by rw[h1];simp),if_neg (by rw[h2];simp),if_neg (by rw[h3];simp),if_pos h4]
theorem fV {a b:Ty} (h:(b.k==0)=false) (h1:(a.k==0)=false) (h2:tise b=false) (h3:(a.k==b.k)=true) (h4:(a.k==1)=false):twi a b=(decide (b.lo<=a.lo)&&decide (a.hi<=b.hi)):=by
 unfold twi;rw[if_neg (by rw[h];simp),if_neg (by rw[h1];simp),if_neg (by rw[h2];simp),if_neg (by rw[h3];simp),if_neg (by rw[h4];simp)]
def sin (a b:Sta):Bool:=smay a&&(smay b&&(twi a.r0 b.r0&&(twi a.r1 b.r1&&(twi a.r2 b.r2&&(twi a.r3 b.r3&&(twi a.r4 b.r4&&(twi a.r5 b.r5&&(twi a.r6 b.r6&&(twi a.r7 b.r7&&(twi a.r8 b.r8&&(twi a.r9 b.r9&&(twi a.r10 b.r10&&(twi a.s0 b.s0&&(twi a.s1 b.s1&&(twi a.s2 b.s2&&(twi a.s3 b.s3&&(twi a.s4 b.s4&&(twi a.s5 b.s5&&(twi a.s6 b.s6&&(twi a.s7 b.s7))))))))))))))))))))
theorem lC {x y:Int} {q:Bool} (h:decide (x<y)=true):(decide (y<=x)&&q)=false:=by have:=thm3 h;rw[fW (by omega),aP]
theorem gz {x y u v:Int} (h:decide (x<y)=false):(decide (y<=x)&&decide (u<=v)) = !decide (v<u):=by
 have:=thm2 h;rw[dU (by omega),Bool.true_and,aJ];simp
theorem arK {n:Nat} (h:n<=64):(1:Int)<=2 ^ n/\(2:Int) ^ n<=2 ^ 64:=by
 have h1:(1:Nat)<=2 ^ n:=Nat.one_le_two_pow
 have h2:(2:Nat) ^ n<=2 ^ 64:=Nat.pow_le_pow_right (by omega) h
 exact⟨by exact_mod_cast h1,by exact_mod_cast h2⟩
theorem uW (x n:Nat) (hn:n<=64) (hx:x<2 ^ 64):x &&& (18446744073709551615-(2 ^ n-1))=0↔x / 2 ^ n=0:=by
 have hp:(2:Nat) ^ n<=2 ^ 64:=Nat.pow_le_pow_right (by omega) hn
 have hq:1<=(2:Nat) ^ n:=Nat.one_le_two_pow
 have e:18446744073709551615-(2 ^ n-1)=2 ^ 64-((2 ^ n-1)+1):=by omega
 have hlt:2 ^ n-1<2 ^ 64:=by omega
 constructor
 ·intro h
  rw[<-Nat.shiftRight_eq_div_pow]
  apply Nat.eq_of_testBit_eq
  intro i
  rw[Nat.testBit_shiftRight,Nat.zero_testBit]
  have h1:=congrArg (fun y=>Nat.testBit y (n+i)) h
  simp only[Nat.zero_testBit,Nat.testBit_and,e,Nat.testBit_two_pow_sub_succ hlt,Nat.testBit_two_pow_sub_one] at h1
  by_cases h64:n+i<64
  ·by_cases hb:Nat.testBit x (n+i)=true
   ·exfalso;simp[h64,hb] at h1;omega
   ·simpa using hb
  ·exact Nat.testBit_lt_two_pow (qs hx (Nat.pow_le_pow_right (by omega) (by omega)))
 ·intro h
  apply Nat.eq_of_testBit_eq
  intro i
  rw[Nat.zero_testBit,Nat.testBit_and,e,Nat.testBit_two_pow_sub_succ hlt,Nat.testBit_two_pow_sub_one]
  by_cases hi:i<n
  ·simp[hi]
  ·have h2:Nat.testBit x i=false:=by
    have:=congrArg (fun y=>Nat.testBit y (i-n)) (Nat.shiftRight_eq_div_pow x n▸h)
    simp only[Nat.testBit_shiftRight,Nat.zero_testBit] at this
    rwa [show n+(i-n)=i from by omega] at this
   simp[h2]
theorem mK {x y:Nat}:x ^^^ y=0↔x=y:=by
 constructor
 ·intro h
  apply Nat.eq_of_testBit_eq
  intro i
  have:=congrArg (fun z=>Nat.testBit z i) h
  simp only[Nat.testBit_xor,Nat.zero_testBit] at this
  cases hx:Nat.testBit x i<;>cases hy:Nat.testBit y i<;>simp_all
 ·rintro rfl
  simp
theorem acJ (lo hi:Int) (n:Nat) (hn:n<=64) (h1:0<=lo) (h2:lo<=18446744073709551615) (h3:0<=hi) (h4:hi<=18446744073709551615):
  bits .andNot .u64 (bits .xor .u64 lo hi) (2 ^ n-1)=0↔lo / 2 ^ n=hi / 2 ^ n:=by
 obtain⟨a,rfl⟩:=ku h1
 obtain⟨b,rfl⟩:=ku h3
 have hp:(2:Nat) ^ n<=2 ^ 64:=Nat.pow_le_pow_right (by omega) hn
 have hq:1<=(2:Nat) ^ n:=Nat.one_le_two_pow
 have ha:a<2 ^ 64:=by omega
 have hb:b<2 ^ 64:=by omega
 have hxl:a ^^^ b<2 ^ 64:=Nat.xor_lt_two_pow ha hb
 have hm:((2:Int) ^ n-1)=((2 ^ n-1:Nat):Int):=by rw[Int.ofNat_sub hq];simp
 rw[u64_xor_nat a b (by omega) (by omega),hm,u64_andNot_nat (a ^^^ b) (2 ^ n-1) (by omega) (by omega)]
 rw[show((2:Int) ^ n)=((2 ^ n:Nat):Int) from by simp]
 constructor
 ·intro h
  have h5:=(uW (a ^^^ b) n hn hxl).1 (by exact_mod_cast h)
  rw[<-Nat.shiftRight_eq_div_pow,Nat.shiftRight_xor_distrib,mK,Nat.shiftRight_eq_div_pow,Nat.shiftRight_eq_div_pow] at h5
  exact_mod_cast h5
 ·intro h
  have h5:a / 2 ^ n=b / 2 ^ n:=by exact_mod_cast h
  have h6:=(uW (a ^^^ b) n hn hxl).2 (by rw[<-Nat.shiftRight_eq_div_pow,Nat.shiftRight_xor_distrib,mK,Nat.shiftRight_eq_div_pow,Nat.shiftRight_eq_div_pow];exact h5)
  exact_mod_cast h6
structure Rw (P:Program) (t:TypeId) (ks:List CE):Prop where
 cells:P.cellsOf t=ks.length
 opn:∀{H:Type} {enc:TypeId×Value->H} {W:World} {sp:Nat->Bool} {hd:Bool} {fuel:Nat} {cs:List Value} {d:DataW H×List MemPlace},
  DataW.trod enc P W 0 sp hd fuel t cs=some d->∃r,cs=rowV ks r/\aG ks r=true
theorem ai4 {k:IntKind} {x:Int} (h:(Lit.int k x).wf=true):inK k x=true:=by
 simp only[Lit.wf,thm0,aZ] at h
 rw[bz];exact h
theorem Rw.int {P:Program} {t:TypeId} (k:IntKind) (ht:P.underlying t=some (.int k)) (hc:P.cellsOf t=1):Rw P t [some k] where
 cells:=hc
 opn:=fun h=>by
  obtain⟨x,h1,_,h2⟩:=DataW.trod_int ht h
  exact⟨[x],h1,by simp[aG,inCE,ai4 h2]⟩
theorem Rw.bool {P:Program} {t:TypeId} (ht:P.underlying t=some .bool) (hc:P.cellsOf t=1):Rw P t [none] where
 cells:=hc
 opn:=fun h=>by
  obtain⟨x,h1,_⟩:=DataW.trod_bool ht h
  exact⟨[b2i x],by cases x<;>exact h1,by cases x<;>rfl⟩
theorem uk:∀{ks ks':List CE} {r r':List Int},aG ks r=true->rowV (ks++ks') (r++r')=rowV ks r++rowV ks' r'
 | [],ks',[],r',_=>rfl
 | k::ks,ks',x::r,r',h=>by
   simp only[aG,thm0] at h
   simp only[List.cons_append,rowV,uk h.2]
theorem pA:∀{ks ks':List CE} {r r':List Int},aG ks r=true->aG ks' r'=true->aG (ks++ks') (r++r')=true
 | [],ks',[],r',_,h=>h
 | k::ks,ks',x::r,r',h,h'=>by
   simp only[aG,thm0] at h
   simp only[List.cons_append,aG,h.1,pA h.2 h',Bool.and_self]
structure RwSeq (P:Program) (off:Nat) (fs:List Field) (ks:List CE):Prop where
 opn:∀{H:Type} {enc:TypeId×Value->H} {W:World} {sp:Nat->Bool} {hd:Bool} {n:Nat} {cs:List Value},
  (∀f∈fs,∃y,DataW.trod enc P W 0 sp hd n f.type ((cs.drop f.offset).take (P.cellsOf f.type))=some y)->cs.length=off+ks.length->∃r,cs.drop off=rowV ks r/\aG ks r=true
theorem RwSeq.nil (P:Program) (off:Nat):RwSeq P off [] []:=⟨fun _ hl=>⟨[],List.drop_eq_nil_of_le (by simp at hl;omega),rfl⟩⟩
theorem RwSeq.cons {P:Program} {off:Nat} {f:Field} {fs:List Field} {ks ks':List CE} (r:Rw P f.type ks) (ho:f.offset=off) (s:RwSeq P (off+ks.length) fs ks'):RwSeq P off (f::fs) (ks++ks'):=⟨fun {H} {enc} {W} {sp} {hd} {n} {cs} h hl=>by
  obtain⟨y,hy⟩:=h f (by simp)
  rw[r.cells,ho] at hy
  obtain⟨a,ha,ha'⟩:=r.opn hy
  obtain⟨b,hb,hb'⟩:=s.opn (fun g hg=>h g (by simp[hg])) (by simp at hl;omega)
  refine⟨a++b,?_,pA ha' hb'⟩
  rw[uk ha',<-ha,<-hb,<-List.drop_drop,List.take_append_drop]⟩
theorem Rw.struct {P:Program} {t:TypeId} {fs:Array Field} {ks:List CE} (s:RwSeq P 0 fs.toList ks) (ht:P.underlying t=some (.struct fs)) (hc:P.cellsOf t=ks.length):Rw P t ks where
 cells:=hc
 opn:=fun {H} {enc} {W} {sp} {hd} {fuel} {cs} {d} h=>by
  obtain⟨xs,n,_,_,hl,hlen,hf⟩:=DataW.trod_struct ht h
  have:=s.opn (enc:=enc) (W:=W) (sp:=sp) (hd:=hd) (n:=n) (cs:=cs) (fun f hm=>by
   obtain⟨i,hi,he⟩:=List.getElem_of_mem hm
   have hi':i<fs.size:=by simpa using hi
   have h1:=hf i f (by rw[Array.getElem?_eq_getElem hi'];simpa using congrArg some he)
   rw[thm6 (by omega)] at h1
   exact⟨_,h1⟩) (by omega)
  simpa using this
theorem amD {α:Type} {n:Nat} {Q:Nat->α->Prop} (h:∀i,i<n->∃x,Q i x):∃l:List α,l.length=n/\∀i x,l[i]? =some x->Q i x:=by
 induction n with
 | zero=>exact⟨[],rfl,by simp⟩
 | succ n ih=>
   obtain⟨l,hl,hq⟩:=ih (fun i hi=>h i (by omega))
   obtain⟨x,hx⟩:=h n (by omega)
   refine⟨l++[x],by simp[hl],fun i y hy=> ?_⟩
   rw[List.getElem?_append] at hy
   split at hy
   ·exact hq i y hy
   ·have:i=n:=by
     rcases aX (i-l.length) 1 with h1 | h1
     ·omega
     ·rw[bI (by simpa using h1)] at hy;cases hy
    subst this
    have:i-l.length=0:=by omega
    rw[this] at hy
    simp at hy
    subst hy
    exact hx
theorem am1 {W:World} {a:Addr} {n:Nat} {cs:List Value} (h:W.cells? 0 a n=some cs) (hn:0<n):a.block<W.heap.size/\a.spot=none:=by
 obtain⟨_,hlen,hat⟩:=World.cells?_some h
 have h0:=hat 0 hn
 rw[thm6 (by omega)] at h0
 obtain⟨b,off,spot⟩:=a
 have hs:spot=none:=by
  cases spot with
  | none=>rfl
  | some s=>
    exfalso
    simp[Addr.add,World.cell?] at h0
    split at h0<;>simp at h0
 subst hs
 refine⟨?_,rfl⟩
 rcases aX b W.heap.size with h1 | h1
 ·exact h1
 ·simp[Addr.add,World.cell?,Array.getElem?_eq_none h1] at h0
theorem rX {U U':Env} {m:Nat} (h:Ag m U U'):∀(vks:List VK) (n:Nat),n+vks.length<=m->varsD U' n vks=varsD U n vks
 | [],_,_=>rfl
 | k::vks,n,hn=>by
   simp only[List.length_cons] at hn
   have h1:=h n (by omega)
   simp only[varsD,rX h vks (n+1) (by omega)]
   congr 1
   cases k<;>simp only[varD,h1.1,h1.2.1,h1.2.2]
theorem aps {cc:Int} {a b:Rg} (ha:a.wf) (hb:b.wf) (ma:bmay a=true) (mb:bmay b=true) (hc:bcan cc a b=true):(brng cc a b).wf:=by
 rw[ce] at ma mb
 have sv:=ix b.ul
 obtain⟨a1,a2,a3,a4⟩:=ha
 obtain⟨b1,b2,b3,b4⟩:=hb
 unfold bcan at hc
 unfold brng
 generalize s64 b.ul=t at *
 by_cases c1:cc=1
 ·rw[if_pos c1] at hc ⊢
  by_cases hs:eN b=true
  ·rw[if_pos hs] at hc ⊢
   simp only[thm0,Bool.not_eq_true',decide_eq_false_iff_not] at hc
   refine⟨?_,?_,?_,?_⟩<;>simp only<;>split<;>omega
  ·rw[if_neg hs];exact⟨a1,a2,a3,a4⟩
 rw[if_neg c1] at hc ⊢
 by_cases c2:cc=2
 ·rw[if_pos c2] at hc ⊢
  simp only[Bool.not_eq_true',decide_eq_false_iff_not] at hc
  exact⟨by simp only;omega,a2,a3,a4⟩
 rw[if_neg c2] at hc ⊢
 by_cases c3:cc=3
 ·rw[if_pos c3];exact⟨by simp only;omega,a2,a3,a4⟩
 rw[if_neg c3]
 by_cases c4:cc=4
 ·rw[if_pos c4] at hc ⊢
  simp only[Bool.not_eq_true',decide_eq_false_iff_not] at hc
  exact⟨a1,by simp only;omega,a3,a4⟩
 rw[if_neg c4] at hc ⊢
 by_cases c5:cc=5
 ·rw[if_pos c5];exact⟨a1,by simp only;omega,a3,a4⟩
 rw[if_neg c5]
 by_cases c6:cc=6
 ·rw[if_pos c6] at hc ⊢
  simp only[Bool.not_eq_true',decide_eq_false_iff_not] at hc
  exact⟨a1,a2,by simp only;omega,a4⟩
 rw[if_neg c6] at hc ⊢
 by_cases c7:cc=7
 ·rw[if_pos c7];exact⟨a1,a2,by simp only;omega,a4⟩
 rw[if_neg c7]
 by_cases c8:cc=8
 ·rw[if_pos c8] at hc ⊢
  simp only[Bool.not_eq_true',decide_eq_false_iff_not] at hc
  exact⟨a1,a2,a3,by simp only;omega⟩
 rw[if_neg c8]
 by_cases c9:cc=9
 ·rw[if_pos c9];exact⟨a1,a2,a3,by simp only;omega⟩
 rw[if_neg c9]
 exact⟨a1,a2,a3,a4⟩
def zs (v w:Int):Int:=wrap64 (aj0 (zcut v w) w)
theorem am6 {cc:Int} {a b:Rg} (h:bgok cc a b=true):jn cc a b=true:=by unfold bgok at h;rw[thm0] at h;exact h.1
def tb (x:Int) (i:Nat):Bool:=(BitVec.ofInt 64 x).getLsbD i
theorem lL {x:Int} (h0:0<=x) (h1:x<=18446744073709551615):((BitVec.ofInt 64 x).toNat:Int)=x:=by
 rw[BitVec.toNat_ofInt];omega
theorem ave {x y:Int} (h0:0<=x) (h1:x<=18446744073709551615) (h2:0<=y) (h3:y<=18446744073709551615) (h:BitVec.ofInt 64 x=BitVec.ofInt 64 y):x=y:=by
 rw[<-lL h0 h1,<-lL h2 h3,h]
theorem ant {x y:Int} (hx:0<=x/\x<=18446744073709551615) (hy:0<=y/\y<=18446744073709551615) (h:∀i,i<64->tb x i=tb y i):x=y:=
 ave hx.1 hx.2 hy.1 hy.2 (BitVec.eq_of_getLsbD_eq fun i hi=>h i hi)
theorem uS (x:Int):BitVec.ofInt 64 (IntKind.u64.wrap x)=BitVec.ofInt 64 x:=by
 apply BitVec.eq_of_toNat_eq
 rw[BitVec.toNat_ofInt,BitVec.toNat_ofInt,bf]
 omega
theorem acO (x:BitVec 64):BitVec.ofInt 64 (x.toNat:Int)=x:=by simp
theorem avf (x y:Int):BitVec.ofInt 64 (bits .and .u64 x y)=BitVec.ofInt 64 x &&& BitVec.ofInt 64 y:=(uS _).trans (acO _)
theorem avd (x y:Int):BitVec.ofInt 64 (bits .or .u64 x y)=BitVec.ofInt 64 x ||| BitVec.ofInt 64 y:=(uS _).trans (acO _)
theorem avc (x y:Int):BitVec.ofInt 64 (bits .xor .u64 x y)=BitVec.ofInt 64 x ^^^ BitVec.ofInt 64 y:=(uS _).trans (acO _)
theorem ajE (x y:Int):BitVec.ofInt 64 (bits .andNot .u64 x y)=BitVec.ofInt 64 x &&& ~~~ BitVec.ofInt 64 y:=(uS _).trans (acO _)
theorem vR (x y:Int) (i:Nat):tb (bits .and .u64 x y) i=(tb x i&&tb y i):=by unfold tb;rw[avf,BitVec.getLsbD_and]
theorem kv (x y:Int) (i:Nat):tb (bits .or .u64 x y) i=(tb x i||tb y i):=by unfold tb;rw[avd,BitVec.getLsbD_or]
theorem vQ (x y:Int) (i:Nat):tb (bits .xor .u64 x y) i=(tb x i ^^ tb y i):=by unfold tb;rw[avc,BitVec.getLsbD_xor]
theorem cn (x y:Int) {i:Nat} (hi:i<64):tb (bits .andNot .u64 x y) i=(tb x i &&!tb y i):=by unfold tb;rw[ajE,BitVec.getLsbD_and,BitVec.getLsbD_not];simp[hi]
theorem lW (i:Nat):tb 0 i=false:=by unfold tb;simp
theorem ac4 {x y:Int} (hx:0<=x/\x<=18446744073709551615) (hy:0<=y/\y<=18446744073709551615):(x==y)=true↔∀i,i<64->tb x i=tb y i:=by
 rw[db]
 exact⟨fun h i _=>by rw[h],ant hx hy⟩
theorem yx:(0:Int)<=0/\(0:Int)<=18446744073709551615:=by omega
theorem dC (a:Kn):kmay a=true↔∀i,i<64->(tb a.v i&&tb a.m i)=false:=by
 unfold kmay
 rw[ac4 (qk _ _) yx]
 simp only[vR,lW]
theorem eb {a:Kn} (ha:a.wf) (x:Int):khas a x=true↔∀i,i<64->(tb a.v i&&tb a.m i)=false/\(tb x i &&!tb a.m i)=tb a.v i:=by
 unfold khas
 rw[thm0,dC,ac4 (eR _ _) ha.1]
 constructor
 ·rintro ⟨h1,h2⟩ i hi
  exact⟨h1 i hi,by have:=h2 i hi;rwa [cn _ _ hi] at this⟩
 ·intro h
  exact⟨fun i hi=>(h i hi).1,fun i hi=>by rw[cn _ _ hi];exact(h i hi).2⟩
theorem aiV {a b:Kn} (hb:b.wf):kin a b=true↔∀i,i<64->(tb a.v i&&tb a.m i)=false/\(tb b.v i&&tb b.m i)=false/\(tb a.m i||tb b.m i)=tb b.m i/\(tb a.v i &&!tb b.m i)=tb b.v i:=by
 unfold kin
 rw[thm0,thm0,thm0,dC,dC,ac4 (mA _ _) hb.2,ac4 (eR _ _) hb.1]
 constructor
 ·rintro ⟨h1,h2,h3,h4⟩ i hi
  exact⟨h1 i hi,h2 i hi,by have:=h3 i hi;rwa [kv] at this,by have:=h4 i hi;rwa [cn _ _ hi] at this⟩
 ·intro h
  exact⟨fun i hi=>(h i hi).1,fun i hi=>(h i hi).2.1,fun i hi=>by rw[kv];exact(h i hi).2.2.1,fun i hi=>by rw[cn _ _ hi];exact(h i hi).2.2.2⟩
theorem aiN (a b:Kn):(aaa a b==0)=true↔∀i,i<64->((tb a.v i ^^ tb b.v i) &&!(tb a.m i||tb b.m i))=false:=by
 unfold aaa
 rw[ac4 (eR _ _) yx]
 constructor
 ·intro h i hi
  have:=h i hi
  rwa [cn _ _ hi,vQ,kv,lW] at this
 ·intro h i hi
  rw[cn _ _ hi,vQ,kv,lW];exact h i hi
theorem rj (a b:Kn):dm a b=true↔∀i,i<64->(tb a.v i&&tb a.m i)=false/\(tb b.v i&&tb b.m i)=false/\((tb a.v i ^^ tb b.v i) &&!(tb a.m i||tb b.m i))=false:=by
 unfold dm
 rw[thm0,thm0,dC,dC,aiN]
 exact⟨fun h i hi=>⟨h.1 i hi,h.2.1 i hi,h.2.2 i hi⟩,fun h=>⟨fun i hi=>(h i hi).1,fun i hi=>(h i hi).2.1,fun i hi=>(h i hi).2.2⟩⟩
theorem xQ (v m:Int):kmay (eG v m)=true:=by
 rw[dC]
 intro i hi
 show(tb (bits .andNot .u64 v m) i&&tb m i)=false
 rw[cn _ _ hi]
 cases tb v i<;>cases tb m i<;>rfl
theorem amE:kmay kall=true:=by
 rw[dC]
 intro i hi
 show(tb 0 i&&_)=false
 rw[lW];rfl
theorem amF {v:Int} (h:0<=v/\v<=18446744073709551615):khas (kone v) v=true:=by
 rw[eb (yD h)]
 intro i hi
 show(tb v i&&tb 0 i)=false/\(tb v i &&!tb 0 i)=tb v i
 rw[lW];simp
theorem uG {a:Kn} {x:Int} (h:khas a x=true):kmay a=true:=by unfold khas at h;rw[thm0] at h;exact h.1
theorem aiM {a b:Nat} (h:∀j,a.testBit j=true->b.testBit j=true):a<=b:=by
 have:a &&& b=a:=by
  apply Nat.eq_of_testBit_eq
  intro j
  rw[Nat.testBit_and]
  cases ha:a.testBit j
  ·rfl
  ·rw[h j ha];rfl
 rw[<-this]
 exact Nat.and_le_right
def Sub64 (x y:BitVec 64):Prop:=∀i,x.getLsbD i=true->y.getLsbD i=true
theorem Sub64.mod {x y:BitVec 64} (h:Sub64 x y) (i:Nat):x.toNat % 2 ^ i<=y.toNat % 2 ^ i:=by
 apply aiM
 intro j hj
 rw[Nat.testBit_mod_two_pow] at hj ⊢
 simp only[thm0] at hj ⊢
 exact⟨hj.1,h j hj.2⟩
def Among (V M p:BitVec 64):Prop:=∀i,i<64->(V.getLsbD i&&M.getLsbD i)=false/\(p.getLsbD i &&!M.getLsbD i)=V.getLsbD i
theorem Among.low {V M p:BitVec 64} (h:Among V M p):Sub64 V p:=by
 intro i hi
 have hl:=BitVec.lt_of_getLsbD hi
 have:=h i hl
 revert this
 rw[hi]
 cases M.getLsbD i<;>cases p.getLsbD i<;>simp
theorem Among.high {V M p:BitVec 64} (h:Among V M p):Sub64 p (V ||| M):=by
 intro i hi
 have hl:=BitVec.lt_of_getLsbD hi
 have:=h i hl
 revert this
 rw[BitVec.getLsbD_or,hi]
 cases M.getLsbD i<;>cases V.getLsbD i<;>simp
theorem Among.at {V M p:BitVec 64} (h:Among V M p) {i:Nat} (hi:i<64) (hm:M.getLsbD i=false):p.getLsbD i=V.getLsbD i:=by
 have:=(h i hi).2
 rw[hm] at this
 simpa using this
theorem Among.or {V M p:BitVec 64} (h:Among V M p):V+M=V ||| M:=by
 apply BitVec.add_eq_or_of_and_eq_zero
 apply BitVec.eq_of_getLsbD_eq
 intro i hi
 rw[BitVec.getLsbD_and,(h i hi).1];simp
theorem am8 {a:Kn} (ha:a.wf) {x:Int} (h:khas a x=true):Among (BitVec.ofInt 64 a.v) (BitVec.ofInt 64 a.m) (BitVec.ofInt 64 x):=(eb ha x).1 h
theorem xS {v m r:Int} (hm:0<=m/\m<=18446744073709551615):khas (eG v m) r=true↔∀i,i<64->tb m i=false->tb r i=tb v i:=by
 rw[eb (dx hm)]
 constructor
 ·intro h i hi h0
  have h1:(tb r i &&!tb m i)=tb (bits .andNot .u64 v m) i:=(h i hi).2
  rw[cn _ _ hi,h0] at h1
  simpa using h1
 ·intro h i hi
  show(tb (bits .andNot .u64 v m) i&&tb m i)=false/\(tb r i &&!tb m i)=tb (bits .andNot .u64 v m) i
  rw[cn _ _ hi]
  have:=h i hi
  revert this
  cases tb v i<;>cases tb m i<;>cases tb r i<;>simp
theorem acp {a b:Kn} (hb:b.wf):kin a b=true↔kmay a=true/\kmay b=true/\∀i,i<64->tb b.m i=false->tb a.m i=false/\tb a.v i=tb b.v i:=by
 rw[aiV hb,dC,dC]
 constructor
 ·intro h
  refine⟨fun i hi=>(h i hi).1,fun i hi=>(h i hi).2.1,fun i hi hm=> ?_⟩
  have:=h i hi
  revert this hm
  cases tb a.v i<;>cases tb a.m i<;>cases tb b.v i<;>cases tb b.m i<;>simp
 ·rintro ⟨h1,h2,h3⟩ i hi
  have a1:=h1 i hi
  have a2:=h2 i hi
  have a3:=h3 i hi
  revert a1 a2 a3
  cases tb a.v i<;>cases tb a.m i<;>cases tb b.v i<;>cases tb b.m i<;>simp
theorem xT {a:Kn} (ha:a.wf) (x:Int):khas a x=true↔kmay a=true/\∀i,i<64->tb a.m i=false->tb x i=tb a.v i:=by
 rw[eb ha,dC]
 constructor
 ·intro h
  refine⟨fun i hi=>(h i hi).1,fun i hi hm=> ?_⟩
  have:=h i hi
  revert this hm
  cases tb a.v i<;>cases tb a.m i<;>cases tb x i<;>simp
 ·rintro ⟨h1,h2⟩ i hi
  have a1:=h1 i hi
  have a2:=h2 i hi
  revert a1 a2
  cases tb a.v i<;>cases tb a.m i<;>cases tb x i<;>simp
theorem aiW {a b:Kn} (ha:a.wf) (hb:b.wf) (h:kin a b=true) {z:Int} (hz:khas a z=true):khas b z=true:=by
 obtain⟨h1,h2,h3⟩:=(acp hb).1 h
 obtain⟨_,h4⟩:=(xT ha z).1 hz
 rw[xT hb]
 exact⟨h2,fun i hi hm=>(h4 i hi (h3 i hi hm).1).trans (h3 i hi hm).2⟩
theorem acn {a b:Kn} (h1:kmay a=true) (h2:kmay b=true):gB a b=eG a.v (bits .or .u64 (bits .or .u64 a.m b.m) (bits .xor .u64 a.v b.v)):=by simp[gB,h1,h2]
theorem aco {a:Kn} {v m:Int} (hm:0<=m/\m<=18446744073709551615) (h1:kmay a=true) (h:∀i,i<64->tb m i=false->tb a.m i=false/\tb a.v i=tb v i):kin a (eG v m)=true:=by
 rw[acp (dx hm)]
 refine⟨h1,xQ _ _,fun i hi h0=> ?_⟩
 have h0':tb m i=false:=h0
 obtain⟨g1,g2⟩:=h i hi h0'
 refine⟨g1,?_⟩
 show _=tb (bits .andNot .u64 v m) i
 rw[cn _ _ hi,h0',g2];simp
theorem aiU {a b:Kn} (h1:kmay a=true) (h2:kmay b=true):kin a (gB a b)=true:=by
 rw[acn h1 h2]
 refine aco (mA _ _) h1 (fun i hi h=> ?_)
 rw[kv,kv,vQ] at h
 revert h
 cases tb a.v i<;>cases tb a.m i<;>cases tb b.v i<;>cases tb b.m i<;>simp
theorem aiT {a b:Kn} (h1:kmay a=true) (h2:kmay b=true):kin b (gB a b)=true:=by
 rw[acn h1 h2]
 refine aco (mA _ _) h2 (fun i hi h=> ?_)
 rw[kv,kv,vQ] at h
 revert h
 cases tb a.v i<;>cases tb a.m i<;>cases tb b.v i<;>cases tb b.m i<;>simp
theorem aiQ {a b:Kn} (ha:a.wf) (hb:b.wf) (h:dm a b=true) (z:Int):khas (gA a b) z=(khas a z&&khas b z):=by
 have hm:=(rj a b).1 h
 rw[aJ,thm0,eb ha,eb hb]
 have e:gA a b=eG (bits .or .u64 a.v b.v) (bits .and .u64 a.m b.m):=by simp[gA,h]
 rw[e,xS (qk _ _)]
 constructor
 ·intro g
  constructor
  ·intro i hi
   have g1:=g i hi
   have g2:=hm i hi
   rw[vR,kv] at g1
   revert g1 g2
   cases tb a.v i<;>cases tb a.m i<;>cases tb b.v i<;>cases tb b.m i<;>cases tb z i<;>simp
  ·intro i hi
   have g1:=g i hi
   have g2:=hm i hi
   rw[vR,kv] at g1
   revert g1 g2
   cases tb a.v i<;>cases tb a.m i<;>cases tb b.v i<;>cases tb b.m i<;>cases tb z i<;>simp
 ·rintro ⟨g1,g2⟩ i hi h0
  have a1:=g1 i hi
  have a2:=g2 i hi
  rw[vR] at h0
  rw[kv]
  revert a1 a2 h0
  cases tb a.v i<;>cases tb a.m i<;>cases tb b.v i<;>cases tb b.m i<;>cases tb z i<;>simp
theorem ady {a b:Kn} (ha:a.wf) (hb:b.wf) (h:dm a b=false) (z:Int):(khas a z&&khas b z)=false:=by
 cases hz:(khas a z&&khas b z)
 ·rfl
 ·exfalso
  rw[thm0] at hz
  have g1:=(eb ha z).1 hz.1
  have g2:=(eb hb z).1 hz.2
  have:dm a b=true:=by
   rw[rj]
   intro i hi
   have a1:=g1 i hi
   have a2:=g2 i hi
   revert a1 a2
   cases tb a.v i<;>cases tb a.m i<;>cases tb b.v i<;>cases tb b.m i<;>cases tb z i<;>simp
  rw[h] at this;cases this
theorem amH {r:Rg} (hr:r.wf) {z:Int} (z0:r.ul<=z) (z1:z<=r.uh):khas (kcom r) z=true:=by
 obtain⟨⟨l0,l1⟩,⟨u0,u1⟩,_⟩:=hr
 have hx:=vb r.ul r.uh
 obtain⟨n,hn⟩:∃n,aE (bits .xor .u64 r.ul r.uh).toNat=n:=⟨_,rfl⟩
 have hle:n<=64:=by rw[<-hn];exact eP (by omega)
 have hsame:r.ul / 2 ^ n=r.uh / 2 ^ n:=by
  refine(acJ r.ul r.uh n hle l0 l1 u0 u1).1 ?_
  have hlt:=uT (bits .xor .u64 r.ul r.uh).toNat
  rw[hn] at hlt
  obtain⟨x,hx'⟩:=ku hx.1
  rw[hx'] at hlt hx ⊢
  have hq:1<=(2:Nat) ^ n:=Nat.one_le_two_pow
  have hp:(2:Nat) ^ n<=2 ^ 64:=Nat.pow_le_pow_right (by omega) hle
  rw[show((2:Int) ^ n-1)=((2 ^ n-1:Nat):Int) from by rw[Int.ofNat_sub hq];simp,u64_andNot_nat x (2 ^ n-1) (by omega) (by omega)]
  have h6:=(uW x n hle (by omega)).2 (Nat.div_eq_of_lt (by simpa using hlt))
  exact_mod_cast h6
 have hz:z / 2 ^ n=r.ul / 2 ^ n:=by
  have hp:(0:Int)<2 ^ n:=Int.pow_pos (by omega)
  have g1:=Int.ediv_le_ediv hp z0
  have g2:=Int.ediv_le_ediv hp z1
  omega
 have hd:=(acJ z r.ul _ hle (by omega) (by omega) l0 l1).2 hz
 have hpb:=arK hle
 have hcv:kcom r=eG r.ul (2 ^ n-1):=by unfold kcom lR;rw[hn]
 rw[hcv,xS (by generalize (2:Int) ^ n=x at *;omega)]
 intro i hi' hm
 have h5:=(ac4 (eR _ _) yx).1 (db.2 hd) i hi'
 rw[cn _ _ hi',vQ,lW,hm] at h5
 revert h5
 cases tb z i<;>cases tb r.ul i<;>simp
theorem aek {k:Kn} (hk:k.wf):(vlo k).wf:=⟨hk.1,mA _ _,by simp[vlo,ball],by simp[vlo,ball]⟩
theorem auA {k:Kn} (hk:k.wf) {x:Int} (hx:0<=x/\x<=18446744073709551615) (h:khas k x=true):bhas (vlo k) x=true:=by
 have A:=am8 hk h
 have h1:=A.low.mod 64
 have h2:=A.high.mod 64
 rw[<-avd] at h2
 have e1:=lL hk.1.1 hk.1.2
 have e2:=lL hx.1 hx.2
 have e3:=lL (mA k.v k.m).1 (mA k.v k.m).2
 rw[Nat.mod_eq_of_lt (BitVec.isLt _),Nat.mod_eq_of_lt (BitVec.isLt _)] at h1 h2
 rw[bK]
 have:=ix x
 show k.v<=x/\x<=bits .or .u64 k.v k.m /\ -9223372036854775808<=s64 x/\s64 x<=9223372036854775807
 omega
theorem rV {a b:Rg} (ha:a.wf) (hb:b.wf):(fB a b).wf:=by
 unfold fB
 split
 ·exact rU (rS ha hb)
 ·exact dN
theorem aaD (a b:Kn):(gA a b).wf:=by
 unfold gA
 split
 ·exact dx (qk _ _)
 ·exact jB
theorem apq {r:Rg} (hr:r.wf):(kcom r).wf:=dx (uU (vb _ _).2)
theorem nj {r:Rg} {k:Kn} (hr:r.wf) (hk:k.wf):(sc r k).wf:=⟨hr,hk⟩
theorem aej {a:Sc} (ha:a.wf):(vst a).wf:=nj (rV ha.r (aek ha.k)) (aaD _ _)
theorem rR:vall.wf:=nj dN jB
theorem nP {a:Sc} (ha:a.wf):(vnar a).wf:=by
 unfold vnar
 split
 ·exact aej (aej ha)
 ·exact rR
theorem nR {a:Sc} {x:Int} (h1:bhas a.r x=true) (h2:khas a.k x=true):vhas a x=true:=by
 unfold vhas vmay
 rw[ee h1,uG h2,h1,h2];rfl
theorem qA {a:Sc} {x:Int} (h:vhas a x=true):bhas a.r x=true:=by unfold vhas at h;simp only[thm0] at h;exact h.2.1
theorem nS {a:Sc} {x:Int} (h:vhas a x=true):khas a.k x=true:=by unfold vhas at h;simp only[thm0] at h;exact h.2.2
theorem rW {a:Sc} {x:Int} (h:vhas a x=true):vmay a=true:=by unfold vhas at h;rw[thm0] at h;exact h.1
theorem aiP {a b:Kn} (ha:a.wf) (hb:b.wf) {z:Int} (h1:khas a z=true) (h2:khas b z=true):dm a b=true/\khas (gA a b) z=true:=by
 cases h:dm a b
 ·have:=ady ha hb h z
  rw[h1,h2] at this;cases this
 ·exact⟨rfl,by rw[aiQ ha hb h z,h1,h2];rfl⟩
theorem ajI {a b:Rg} (ha:a.wf) (hb:b.wf) {z:Int} (hz:0<=z/\z<=18446744073709551615) (h1:bhas a z=true) (h2:bhas b z=true):dM a b=true/\bhas (fB a b) z=true:=by
 have h:=amL ha hb hz.1 hz.2 h2
 rw[h1] at h
 have h:=h.symm
 rw[thm0] at h
 exact h
theorem aeu {a:Sc} (ha:a.wf) {x:Int} (hx:0<=x/\x<=18446744073709551615) (h:vhas a x=true):vs1 a=true/\vs2 a=true/\vhas (vst a) x=true:=by
 have h1:=ajI ha.r (aek ha.k) hx (qA h) (auA ha.k hx (nS h))
 have hw:=rV ha.r (aek ha.k)
 have hb:=(bK _ _).1 h1.2
 have h2:=aiP ha.k (apq hw) (nS h) (amH hw hb.1 hb.2.1)
 exact⟨h1.1,h2.1,nR (a:=vst a) h1.2 h2.2⟩
theorem aaJ {a:Sc} (ha:a.wf) {x:Int} (hx:0<=x/\x<=18446744073709551615) (h:vhas a x=true):vnok a=true/\vhas (vnar a) x=true:=by
 obtain⟨h1,h2,h3⟩:=aeu ha hx h
 obtain⟨g1,g2,g3⟩:=aeu (aej ha) hx h3
 have e:=vn_t (rW h) h1 h2 g1 g2
 exact⟨e.2,by rw[e.1];exact g3⟩
theorem apt {cc:Int} {a b:Rg} (ha:a.wf) (hb:b.wf):(bgiv cc a b).wf:=by
 unfold bgiv
 split
 ·rename_i hk
  have hg:=am6 hk
  unfold bgok at hk
  rw[hg,Bool.true_and] at hk
  unfold jn at hg
  simp only[thm0] at hg
  by_cases c:cc=0
  ·rw[if_pos c];exact rV ha hb
  ·rw[if_neg c] at hk ⊢
   rw[thm0] at hk
   exact rU (aps ha hb hg.1 hg.2.1 hk.1)
 ·exact dN
theorem aaE {a b:Rg} (ha:a.wf) (hb:b.wf):(fC a b).wf:=by
 obtain⟨a1,a2,a3,a4⟩:=ha
 obtain⟨b1,b2,b3,b4⟩:=hb
 unfold fC
 split
 ·unfold lO
  refine⟨?_,?_,?_,?_⟩<;>simp only<;>omega
 ·exact dN
theorem rm {a b:Kn} (ha:a.wf) {x:Int} (h1:khas a x=true) (h2:kmay b=true):khas (gB a b) x=true:=aiW ha (iR a b) (aiU (uG h1) h2) h1
theorem rk {a b:Kn} (hb:b.wf) {x:Int} (h1:kmay a=true) (h2:khas b x=true):khas (gB a b) x=true:=aiW hb (iR a b) (aiT h1 (uG h2)) h2
theorem aaL {a:Sc} (h:vmay a=true):bmay a.r=true:=by unfold vmay at h;rw[thm0] at h;exact h.1
theorem aaM {a:Sc} (h:vmay a=true):kmay a.k=true:=by unfold vmay at h;rw[thm0] at h;exact h.2
theorem ael {a b:Rg} (ha:a.wf):(bwid a b).wf:=by
 obtain⟨a1,a2,a3,a4⟩:=ha
 unfold bwid
 refine⟨?_,?_,?_,?_⟩<;>simp only<;>split<;>omega
theorem apo {a b:Rg} (ha:a.wf) (hb:b.wf) {z:Int} (hz:0<=z/\z<=18446744073709551615) (h:bhas a z=true\/bhas b z=true):bhas (bwid a b) z=true:=by
 have hs:=ix z
 obtain⟨a1,a2,a3,a4⟩:=ha
 obtain⟨b1,b2,b3,b4⟩:=hb
 rw[bK,bK] at h
 rw[bK]
 unfold bwid
 simp only[beq_eq_false_iff_ne,aZ,ne_eq]
 refine⟨?_,?_,?_,?_⟩<;>split<;>omega
theorem aey {a b:Sc} (ha:a.wf) (hb:b.wf) {z:Int} (hz:0<=z/\z<=18446744073709551615) (ma:vmay a=true) (mb:vmay b=true) (h:vhas a z=true\/vhas b z=true):vhas (dr a b) z=true:=by
 unfold dr
 rw[if_pos ⟨ma,mb⟩]
 refine(aaJ (nj (aaE ha.r hb.r) (iR _ _)) hz ?_).2
 rcases h with h | h
 ·exact nR (a:=sc _ _) (ai9 (qA h) (aaL mb)) (rm ha.k (nS h) (aaM mb))
 ·exact nR (a:=sc _ _) (ai8 (aaL ma) (qA h)) (rk hb.k (aaM ma) (nS h))
theorem akd {a b:Sc} (ha:a.wf) (hb:b.wf) {z:Int} (hz:0<=z/\z<=18446744073709551615) (ma:vmay a=true) (mb:vmay b=true) (h:vhas a z=true\/vhas b z=true):vhas (vwid a b) z=true:=by
 unfold vwid
 rw[if_pos ⟨ma,mb⟩]
 refine(aaJ (nj (ael ha.r) (iR _ _)) hz ?_).2
 refine nR (a:=sc _ _) (apo ha.r hb.r hz ?_) ?_
 ·rcases h with h | h
  ·exact .inl (qA h)
  ·exact .inr (qA h)
 ·rcases h with h | h
  ·exact rm ha.k (nS h) (aaM mb)
  ·exact rk hb.k (aaM ma) (nS h)
theorem aen {a:Rg} (ha:a.wf):(blow a).wf:=by
 unfold blow
 split
 ·exact ha
 ·exact rU (qo (by omega) (by omega) (by omega) (by omega))
theorem rQ {a:Sc} (ha:a.wf):(vlow a).wf:=nP (nj (aen ha.r) (rT ha.k 32))
theorem am3 {v:Int}:bhas (bone v) v=true:=by rw[bK];exact⟨Int.le_refl _,Int.le_refl _,Int.le_refl _,Int.le_refl _⟩
theorem asP (v:Int):(vone v).r=bone v:=rfl
section
variable {op l:Int} {a b:Kn}
end
theorem rf0 {v:Int} (h0:0<=v) (h:v<=0):0=lR v:=by
 obtain rfl:v=0:=by omega
 rfl
theorem rf {v lo hi:Int} (k:Nat) (e1:lo=2 ^ k) (e2:hi=2 ^ (k+1)-1) (h1:lo<=v) (h2:v<=hi):hi=lR v:=by
 have p:(0:Int)<2 ^ k:=Int.pow_pos (by omega)
 have q1:((2 ^ k:Nat):Int)=2 ^ k:=by simp
 have q2:((2 ^ (k+1):Nat):Int)=2 ^ (k+1):=by simp
 unfold lR
 rw[ajL (n:=v.toNat) (c:=k) (by omega) (by omega),e2]
section
variable {op:Int} {a b:Rg} (ha:a.ok) (hb:b.ok) (ma:bmay a=true) (mb:bmay b=true)
include ha hb
include ma mb
end
section
variable {a b:Rg}
end
theorem avl {r s:Sc} (h:r=s):[Dt.z r.ul,.z r.uh,.z r.sl,.z r.sh,.z r.v,.z r.m]=[Dt.z s.ul,.z s.uh,.z s.sl,.z s.sh,.z s.v,.z s.m]:=by rw[h]
def vbyt (n:Int):Sc:=vbel (2 ^ (8*(min (max n 1) 8).toNat)-1)
theorem aau (n:Int):min (max n 1) 8=1\/min (max n 1) 8=2\/min (max n 1) 8=3\/min (max n 1) 8=4\/min (max n 1) 8=5\/min (max n 1) 8=6\/min (max n 1) 8=7\/min (max n 1) 8=8:=by omega
end Go.Proofs.YtfkhblmeioiciaaGreatDoor
