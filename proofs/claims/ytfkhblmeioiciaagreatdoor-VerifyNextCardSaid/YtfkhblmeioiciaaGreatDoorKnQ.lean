import Derived.Test.YtfkhblmeioiciaaGreatDoorKxZ
set_option linter.unusedVariables false
set_option linter.unusedSimpArgs false
namespace Go.Proofs.YtfkhblmeioiciaaGreatDoor
open Go.RowKit
theorem aiJ {x y:Int} (h1:0≤x) (h2:x≤18446744073709551615) (h3:0≤y) (h4:y≤18446744073709551615):(bits .or .u64 x y==0)=((x==0)&&(y==0)):=by
 obtain⟨a,rfl⟩:=Int.eq_ofNat_of_zero_le h1
 obtain⟨b,rfl⟩:=Int.eq_ofNat_of_zero_le h3
 rw[u64_or_nat a b (by omega) (by omega),Bool.eq_iff_iff]
 simp only[beq_iff_eq,Bool.and_eq_true]
 constructor
 ·intro h
  have h5:a ||| b=0:=by exact_mod_cast h
  have h6:=Nat.or_eq_zero_iff.1 h5
  omega
 ·rintro ⟨h,h'⟩
  obtain rfl:a=0:=by omega
  obtain rfl:b=0:=by omega
  rfl
theorem aiF {n:Nat} (h:n≤64):(1:Int)≤2 ^ n∧(2:Int) ^ n≤2 ^ 64:=by
 have h1:(1:Nat)≤2 ^ n:=Nat.one_le_two_pow
 have h2:(2:Nat) ^ n≤2 ^ 64:=Nat.pow_le_pow_right (by omega) h
 exact⟨by exact_mod_cast h1,by exact_mod_cast h2⟩
theorem qa (x n:Nat) (hn:n≤64) (hx:x<2 ^ 64):x &&& (18446744073709551615-(2 ^ n-1))=0↔x / 2 ^ n=0:=by
 have hp:(2:Nat) ^ n≤2 ^ 64:=Nat.pow_le_pow_right (by omega) hn
 have hq:1≤(2:Nat) ^ n:=Nat.one_le_two_pow
 have e:18446744073709551615-(2 ^ n-1)=2 ^ 64-((2 ^ n-1)+1):=by omega
 have hlt:2 ^ n-1<2 ^ 64:=by omega
 constructor
 ·intro h
  rw[←Nat.shiftRight_eq_div_pow]
  apply Nat.eq_of_testBit_eq
  intro i
  rw[Nat.testBit_shiftRight,Nat.zero_testBit]
  have h1:=congrArg (fun y=>Nat.testBit y (n+i)) h
  simp only[Nat.zero_testBit,Nat.testBit_and,e,Nat.testBit_two_pow_sub_succ hlt,Nat.testBit_two_pow_sub_one] at h1
  by_cases h64:n+i<64
  ·by_cases hb:Nat.testBit x (n+i)=true
   ·exfalso; simp[h64,hb] at h1; omega
   ·simpa using hb
  ·exact Nat.testBit_lt_two_pow (Nat.lt_of_lt_of_le hx (Nat.pow_le_pow_right (by omega) (by omega)))
 ·intro h
  apply Nat.eq_of_testBit_eq
  intro i
  rw[Nat.zero_testBit,Nat.testBit_and,e,Nat.testBit_two_pow_sub_succ hlt,Nat.testBit_two_pow_sub_one]
  by_cases hi:i<n
  ·simp[hi]
  ·have h2:Nat.testBit x i=false:=by
    have:=congrArg (fun y=>Nat.testBit y (i-n)) (Nat.shiftRight_eq_div_pow x n▸h)
    simp only[Nat.testBit_shiftRight,Nat.zero_testBit] at this
    rwa [show n+(i-n)=i from by omega] at this
   simp[h2]
theorem jV {x y:Nat}:x ^^^ y=0↔x=y:=by
 constructor
 ·intro h
  apply Nat.eq_of_testBit_eq
  intro i
  have:=congrArg (fun z=>Nat.testBit z i) h
  simp only[Nat.testBit_xor,Nat.zero_testBit] at this
  cases hx:Nat.testBit x i<;>cases hy:Nat.testBit y i<;>simp_all
 ·rintro rfl
  simp
theorem xg (lo hi:Int) (n:Nat) (hn:n≤64) (h1:0≤lo) (h2:lo≤18446744073709551615) (h3:0≤hi) (h4:hi≤18446744073709551615):
  bits .andNot .u64 (bits .xor .u64 lo hi) (2 ^ n-1)=0↔lo / 2 ^ n=hi / 2 ^ n:=by
 obtain⟨a,rfl⟩:=Int.eq_ofNat_of_zero_le h1
 obtain⟨b,rfl⟩:=Int.eq_ofNat_of_zero_le h3
 have hp:(2:Nat) ^ n≤2 ^ 64:=Nat.pow_le_pow_right (by omega) hn
 have hq:1≤(2:Nat) ^ n:=Nat.one_le_two_pow
 have ha:a<2 ^ 64:=by omega
 have hb:b<2 ^ 64:=by omega
 have hxl:a ^^^ b<2 ^ 64:=Nat.xor_lt_two_pow ha hb
 have hm:((2:Int) ^ n-1)=((2 ^ n-1:Nat):Int):=by rw[Int.ofNat_sub hq]; simp
 rw[u64_xor_nat a b (by omega) (by omega),hm,u64_andNot_nat (a ^^^ b) (2 ^ n-1) (by omega) (by omega)]
 rw[show((2:Int) ^ n)=((2 ^ n:Nat):Int) from by simp]
 constructor
 ·intro h
  have h5:=(qa (a ^^^ b) n hn hxl).1 (by exact_mod_cast h)
  rw[←Nat.shiftRight_eq_div_pow,Nat.shiftRight_xor_distrib,jV,Nat.shiftRight_eq_div_pow,Nat.shiftRight_eq_div_pow] at h5
  exact_mod_cast h5
 ·intro h
  have h5:a / 2 ^ n=b / 2 ^ n:=by exact_mod_cast h
  have h6:=(qa (a ^^^ b) n hn hxl).2 (by rw[←Nat.shiftRight_eq_div_pow,Nat.shiftRight_xor_distrib,jV,Nat.shiftRight_eq_div_pow,Nat.shiftRight_eq_div_pow]; exact h5)
  exact_mod_cast h6
end Go.Proofs.YtfkhblmeioiciaaGreatDoor
