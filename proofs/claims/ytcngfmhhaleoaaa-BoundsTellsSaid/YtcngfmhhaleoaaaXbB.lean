/- Contracts of Narrow and others of package bounds, by the symbolic run. -/
import Derived.Test.YtcngfmhhaleoaaaXbA
import Derived.Test.YtcngfmhhaleoaaaProg
import Derived.Laws.Externs
set_option linter.unusedVariables false
set_option linter.unusedSimpArgs false
namespace Go.Proofs.Ytcngfmhhaleoaaa
open Go.RowKit Go.ChangeShapes Go.WideShapes

theorem bnar_if (r : Rg) : (if bnok r = true then bnar r else ball) = bnar r := by
  unfold bnar
  split <;> simp_all
theorem Rg.ext_iff {a b : Rg} : a = b ↔ a.ul = b.ul ∧ a.uh = b.uh ∧ a.sl = b.sl ∧ a.sh = b.sh := by
  cases a; cases b; simp
theorem inK_u64 {x : Int} (h : inK .u64 x = true) : 0 ≤ x ∧ x ≤ 18446744073709551615 := by
  rw [inK_iff] at h; simpa [IntKind.min, IntKind.max, IntKind.signed, IntKind.bits] using h
theorem inK_i64 {x : Int} (h : inK .i64 x = true) : -9223372036854775808 ≤ x ∧ x ≤ 9223372036854775807 := by
  rw [inK_iff] at h; simpa [IntKind.min, IntKind.max, IntKind.signed, IntKind.bits] using h
theorem Rg.wf_of {a : Rg} (h : a.ok) : a.wf := ⟨inK_u64 h.1, inK_u64 h.2.1, inK_i64 h.2.2.1, inK_i64 h.2.2.2⟩
theorem shr63 {x : Int} (h : 0 ≤ x ∧ x ≤ 18446744073709551615) : opI .shr .u64 x 63 = if hib x = true then 1 else 0 := by
  show x.fdiv (2 ^ 63) = _
  rw [Int.fdiv_eq_ediv_of_nonneg _ (by omega)]
  unfold hib
  split
  · rename_i hh; have := of_decide_eq_true hh; omega
  · rename_i hh; have : ¬ 9223372036854775808 ≤ x := fun e => hh (decide_eq_true e); omega
theorem hib_c {r : Rg} (w : r.wf) : (opI .shr .u64 r.ul 63 == opI .shr .u64 r.uh 63) = decide (hib r.ul = hib r.uh) := by
  rw [shr63 w.1, shr63 w.2.1]
  cases hib r.ul <;> cases hib r.uh <;> rfl
theorem sgn_t {r : Rg} (w : r.wf) (h : (opI .shr .u64 r.ul 63 == opI .shr .u64 r.uh 63) = true) : bsgn r = ⟨r.ul, r.uh, max r.sl (IntKind.i64.wrap r.ul), min r.sh (IntKind.i64.wrap r.uh)⟩ := by
  rw [hib_c w, decide_eq_true_eq] at h
  unfold bsgn
  rw [if_pos h, s64_wrap, s64_wrap]
theorem sgn_f {r : Rg} (w : r.wf) (h : (opI .shr .u64 r.ul 63 == opI .shr .u64 r.uh 63) = false) : bsgn r = ⟨r.ul, r.uh, r.sl, r.sh⟩ := by
  rw [hib_c w, decide_eq_false_iff_not] at h
  unfold bsgn
  rw [if_neg h]
theorem uns_t {r : Rg} (h : (decide (r.sl < 0) == decide (r.sh < 0)) = true) : buns r = ⟨max r.ul (IntKind.u64.wrap r.sl), min r.uh (IntKind.u64.wrap r.sh), r.sl, r.sh⟩ := by
  unfold buns
  rw [if_pos (eq_of_beq h)]
theorem uns_f {r : Rg} (h : (decide (r.sl < 0) == decide (r.sh < 0)) = false) : buns r = ⟨r.ul, r.uh, r.sl, r.sh⟩ := by
  unfold buns
  rw [if_neg (fun e => by rw [e] at h; simp at h)]
def z_Rg : List C := [.int .u64 (.lit 0), .int .u64 (.lit 0), .int .i64 (.lit 0), .int .i64 (.lit 0)]
theorem grd_Rg : Try.prog.eqGuardType Try.prog.depth 24 = false := by kernel_rfl
theorem cells24_Rg : Try.prog.cellsOf 24 = 4 := by kernel_rfl
theorem cells22_Rg : Try.prog.cellsOf 22 = 1 := by kernel_rfl
theorem cells2_Rg : Try.prog.cellsOf 2 = 1 := by kernel_rfl
set_option maxRecDepth 100000 in
theorem kl_Rg (vs : List Value) (hv : kindsV vs z_Rg) : Try.prog.keyLits 6 24 vs = some (litsOf vs) := by
  obtain ⟨x0, _, rfl, g0, hv⟩ := kindsV_int hv
  obtain ⟨x1, _, rfl, g1, hv⟩ := kindsV_int hv
  obtain ⟨x2, _, rfl, g2, hv⟩ := kindsV_int hv
  obtain ⟨x3, _, rfl, g3, hv⟩ := kindsV_int hv
  obtain rfl := kindsV_nil hv
  simp [Program.keyLits, Try.underlying24, Try.underlying22, Try.underlying2, cells24_Rg, cells22_Rg, cells2_Rg, inK_wf, litsOf, g0, g1, g2, g3]
theorem fm_Rg (vs : List Value) (hv : kindsV vs z_Rg) : (Value.agg vs.toArray).formed Try.prog 24 = true := by
  obtain ⟨x0, _, rfl, g0, hv⟩ := kindsV_int hv
  obtain ⟨x1, _, rfl, g1, hv⟩ := kindsV_int hv
  obtain ⟨x2, _, rfl, g2, hv⟩ := kindsV_int hv
  obtain ⟨x3, _, rfl, g3, hv⟩ := kindsV_int hv
  obtain rfl := kindsV_nil hv
  kernel_rfl
theorem eq_Rg (vs us : List Value) (hv : kindsV vs z_Rg) (hu : kindsV us z_Rg) (w : World) : (Op.equal 24 (.agg vs.toArray) (.agg us.toArray)).run Try.prog w = .ok (eqVs vs us) w :=
  eq_of_keys (by kernel_rfl) fm_Rg 6 kl_Rg vs us hv hu w
def tys_XbB : List (Nat × TI) := [(2, ⟨false, 1, [.int .i64 (.lit 0)], [], none, some .i64, false, false⟩),
  (3, ⟨false, 1, [.int .i64 (.lit 0)], [], none, some .i64, false, false⟩),
  (4, ⟨false, 1, [.bool (.tt false)], [], none, none, false, true⟩),
  (22, ⟨false, 1, [.int .u64 (.lit 0)], [], none, some .u64, false, false⟩),
  (24, ⟨true, 4, [.int .u64 (.lit 0), .int .u64 (.lit 0), .int .i64 (.lit 0), .int .i64 (.lit 0)], [(0, 22), (1, 22), (2, 2), (3, 2)], none, none, true, false⟩),
  (69, ⟨true, 2, [.int .u64 (.lit 0), .int .u64 (.lit 0)], [(0, 22), (1, 22)], none, none, false, false⟩),
  (72, ⟨true, 2, [.int .i64 (.lit 0), .int .i64 (.lit 0)], [(0, 2), (1, 2)], none, none, false, false⟩)]
set_option maxRecDepth 100000 in
theorem tysck_XbB : (tys_XbB.all fun p => ckTI Try.prog p.1 p.2) = true := by kernel_rfl
theorem tyseq_XbB : (tys_XbB.all fun p => !p.2.eqok || ((Nat.beq p.1 24 && kindsC p.2.zero z_Rg))) = true := by kernel_rfl
theorem tysok_XbB : ∀ t i, (t, i) ∈ tys_XbB → TIok Try.prog t i := by
  intro t i h
  have h1 := List.all_eq_true.1 tyseq_XbB (t, i) h
  have h2 : i.eqok = true → (t = 24 ∧ kindsC i.zero z_Rg = true) := by
    intro he
    simp only [he, Bool.not_true, Bool.false_or, Bool.or_eq_true, Bool.and_eq_true] at h1
    exact ⟨Nat.eq_of_beq_eq_true h1.1, h1.2⟩
  refine TIok_of (all_at (f := ckTI Try.prog) tysck_XbB h) (fun he => ?_) (fun he => ?_)
  · rcases h2 he with ⟨rfl, hs⟩
    · exact fun vs us hv hu => eq_Rg vs us (kindsV_of hs hv) (kindsV_of hs hu)
  · rcases h2 he with ⟨rfl, hs⟩
    · exact grd_Rg
def sT_nar : Tr :=
(.call 0 [.bool] (.cons (.var 0) (.cons (.var 1) (.cons (.var 2) (.cons (.var 3) .nil)))) 4
 (.br (.bvar 4)
 (.call 2 [.int .u64, .int .u64] (.cons (.var 0) (.cons (.var 1) (.cons (.var 2) (.cons (.var 3) .nil)))) 5
  (.call 3 [.int .i64, .int .i64] (.cons (.var 0) (.cons (.var 1) (.cons (.var 2) (.cons (.var 3) .nil)))) 7
  (.br (.eq (.bin .shr .u64 (.var 5) (.lit 63)) (.bin .shr .u64 (.var 6) (.lit 63)))
  (.call 5 [.int .i64, .int .i64] (.cons (.var 7) (.cons (.var 8) (.cons (.conv .i64 (.var 5)) (.cons (.conv .i64 (.var 6)) .nil)))) 9
   (.call 6 [.int .u64, .int .u64, .int .i64, .int .i64] (.cons (.var 5) (.cons (.var 6) (.cons (.var 9) (.cons (.var 10) .nil)))) 11
   (.call 0 [.bool] (.cons (.var 11) (.cons (.var 12) (.cons (.var 13) (.cons (.var 14) .nil)))) 15
   (.br (.bvar 15)
   (.call 2 [.int .u64, .int .u64] (.cons (.var 11) (.cons (.var 12) (.cons (.var 13) (.cons (.var 14) .nil)))) 16
    (.call 3 [.int .i64, .int .i64] (.cons (.var 11) (.cons (.var 12) (.cons (.var 13) (.cons (.var 14) .nil)))) 18
    (.br (.beq (.lt (.var 18) (.lit 0)) (.lt (.var 19) (.lit 0)))
    (.call 4 [.int .u64, .int .u64] (.cons (.var 16) (.cons (.var 17) (.cons (.conv .u64 (.var 18)) (.cons (.conv .u64 (.var 19)) .nil)))) 20
     (.call 6 [.int .u64, .int .u64, .int .i64, .int .i64] (.cons (.var 20) (.cons (.var 21) (.cons (.var 18) (.cons (.var 19) .nil)))) 22
     (.call 0 [.bool] (.cons (.var 22) (.cons (.var 23) (.cons (.var 24) (.cons (.var 25) .nil)))) 26
     (.br (.bvar 26)
     (.call 2 [.int .u64, .int .u64] (.cons (.var 22) (.cons (.var 23) (.cons (.var 24) (.cons (.var 25) .nil)))) 27
      (.call 3 [.int .i64, .int .i64] (.cons (.var 22) (.cons (.var 23) (.cons (.var 24) (.cons (.var 25) .nil)))) 29
      (.br (.eq (.bin .shr .u64 (.var 27) (.lit 63)) (.bin .shr .u64 (.var 28) (.lit 63)))
      (.call 5 [.int .i64, .int .i64] (.cons (.var 29) (.cons (.var 30) (.cons (.conv .i64 (.var 27)) (.cons (.conv .i64 (.var 28)) .nil)))) 31
       (.call 6 [.int .u64, .int .u64, .int .i64, .int .i64] (.cons (.var 27) (.cons (.var 28) (.cons (.var 31) (.cons (.var 32) .nil)))) 33
       (.call 0 [.bool] (.cons (.var 33) (.cons (.var 34) (.cons (.var 35) (.cons (.var 36) .nil)))) 37
       (.br (.bvar 37)
       (.call 2 [.int .u64, .int .u64] (.cons (.var 33) (.cons (.var 34) (.cons (.var 35) (.cons (.var 36) .nil)))) 38
        (.call 3 [.int .i64, .int .i64] (.cons (.var 33) (.cons (.var 34) (.cons (.var 35) (.cons (.var 36) .nil)))) 40
        (.leaf (.tup [(true, [.int .u64 (.var 33), .int .u64 (.var 34), .int .i64 (.var 35), .int .i64 (.var 36)]), (false, [.bool (.tt true)])]))))
       (.call 1 [.int .u64, .int .u64, .int .i64, .int .i64] .nil 38
        (.leaf (.tup [(true, [.int .u64 (.var 38), .int .u64 (.var 39), .int .i64 (.var 40), .int .i64 (.var 41)]), (false, [.bool (.tt false)])])))))))
      (.call 6 [.int .u64, .int .u64, .int .i64, .int .i64] (.cons (.var 27) (.cons (.var 28) (.cons (.var 29) (.cons (.var 30) .nil)))) 31
       (.call 0 [.bool] (.cons (.var 31) (.cons (.var 32) (.cons (.var 33) (.cons (.var 34) .nil)))) 35
       (.br (.bvar 35)
       (.call 2 [.int .u64, .int .u64] (.cons (.var 31) (.cons (.var 32) (.cons (.var 33) (.cons (.var 34) .nil)))) 36
        (.call 3 [.int .i64, .int .i64] (.cons (.var 31) (.cons (.var 32) (.cons (.var 33) (.cons (.var 34) .nil)))) 38
        (.leaf (.tup [(true, [.int .u64 (.var 31), .int .u64 (.var 32), .int .i64 (.var 33), .int .i64 (.var 34)]), (false, [.bool (.tt true)])]))))
       (.call 1 [.int .u64, .int .u64, .int .i64, .int .i64] .nil 36
        (.leaf (.tup [(true, [.int .u64 (.var 36), .int .u64 (.var 37), .int .i64 (.var 38), .int .i64 (.var 39)]), (false, [.bool (.tt false)])])))))))))
     (.call 1 [.int .u64, .int .u64, .int .i64, .int .i64] .nil 27
      (.leaf (.tup [(true, [.int .u64 (.var 27), .int .u64 (.var 28), .int .i64 (.var 29), .int .i64 (.var 30)]), (false, [.bool (.tt false)])])))))))
    (.call 6 [.int .u64, .int .u64, .int .i64, .int .i64] (.cons (.var 16) (.cons (.var 17) (.cons (.var 18) (.cons (.var 19) .nil)))) 20
     (.call 0 [.bool] (.cons (.var 20) (.cons (.var 21) (.cons (.var 22) (.cons (.var 23) .nil)))) 24
     (.br (.bvar 24)
     (.call 2 [.int .u64, .int .u64] (.cons (.var 20) (.cons (.var 21) (.cons (.var 22) (.cons (.var 23) .nil)))) 25
      (.call 3 [.int .i64, .int .i64] (.cons (.var 20) (.cons (.var 21) (.cons (.var 22) (.cons (.var 23) .nil)))) 27
      (.br (.eq (.bin .shr .u64 (.var 25) (.lit 63)) (.bin .shr .u64 (.var 26) (.lit 63)))
      (.call 5 [.int .i64, .int .i64] (.cons (.var 27) (.cons (.var 28) (.cons (.conv .i64 (.var 25)) (.cons (.conv .i64 (.var 26)) .nil)))) 29
       (.call 6 [.int .u64, .int .u64, .int .i64, .int .i64] (.cons (.var 25) (.cons (.var 26) (.cons (.var 29) (.cons (.var 30) .nil)))) 31
       (.call 0 [.bool] (.cons (.var 31) (.cons (.var 32) (.cons (.var 33) (.cons (.var 34) .nil)))) 35
       (.br (.bvar 35)
       (.call 2 [.int .u64, .int .u64] (.cons (.var 31) (.cons (.var 32) (.cons (.var 33) (.cons (.var 34) .nil)))) 36
        (.call 3 [.int .i64, .int .i64] (.cons (.var 31) (.cons (.var 32) (.cons (.var 33) (.cons (.var 34) .nil)))) 38
        (.leaf (.tup [(true, [.int .u64 (.var 31), .int .u64 (.var 32), .int .i64 (.var 33), .int .i64 (.var 34)]), (false, [.bool (.tt true)])]))))
       (.call 1 [.int .u64, .int .u64, .int .i64, .int .i64] .nil 36
        (.leaf (.tup [(true, [.int .u64 (.var 36), .int .u64 (.var 37), .int .i64 (.var 38), .int .i64 (.var 39)]), (false, [.bool (.tt false)])])))))))
      (.call 6 [.int .u64, .int .u64, .int .i64, .int .i64] (.cons (.var 25) (.cons (.var 26) (.cons (.var 27) (.cons (.var 28) .nil)))) 29
       (.call 0 [.bool] (.cons (.var 29) (.cons (.var 30) (.cons (.var 31) (.cons (.var 32) .nil)))) 33
       (.br (.bvar 33)
       (.call 2 [.int .u64, .int .u64] (.cons (.var 29) (.cons (.var 30) (.cons (.var 31) (.cons (.var 32) .nil)))) 34
        (.call 3 [.int .i64, .int .i64] (.cons (.var 29) (.cons (.var 30) (.cons (.var 31) (.cons (.var 32) .nil)))) 36
        (.leaf (.tup [(true, [.int .u64 (.var 29), .int .u64 (.var 30), .int .i64 (.var 31), .int .i64 (.var 32)]), (false, [.bool (.tt true)])]))))
       (.call 1 [.int .u64, .int .u64, .int .i64, .int .i64] .nil 34
        (.leaf (.tup [(true, [.int .u64 (.var 34), .int .u64 (.var 35), .int .i64 (.var 36), .int .i64 (.var 37)]), (false, [.bool (.tt false)])])))))))))
     (.call 1 [.int .u64, .int .u64, .int .i64, .int .i64] .nil 25
      (.leaf (.tup [(true, [.int .u64 (.var 25), .int .u64 (.var 26), .int .i64 (.var 27), .int .i64 (.var 28)]), (false, [.bool (.tt false)])])))))))))
   (.call 1 [.int .u64, .int .u64, .int .i64, .int .i64] .nil 16
    (.leaf (.tup [(true, [.int .u64 (.var 16), .int .u64 (.var 17), .int .i64 (.var 18), .int .i64 (.var 19)]), (false, [.bool (.tt false)])])))))))
  (.call 6 [.int .u64, .int .u64, .int .i64, .int .i64] (.cons (.var 5) (.cons (.var 6) (.cons (.var 7) (.cons (.var 8) .nil)))) 9
   (.call 0 [.bool] (.cons (.var 9) (.cons (.var 10) (.cons (.var 11) (.cons (.var 12) .nil)))) 13
   (.br (.bvar 13)
   (.call 2 [.int .u64, .int .u64] (.cons (.var 9) (.cons (.var 10) (.cons (.var 11) (.cons (.var 12) .nil)))) 14
    (.call 3 [.int .i64, .int .i64] (.cons (.var 9) (.cons (.var 10) (.cons (.var 11) (.cons (.var 12) .nil)))) 16
    (.br (.beq (.lt (.var 16) (.lit 0)) (.lt (.var 17) (.lit 0)))
    (.call 4 [.int .u64, .int .u64] (.cons (.var 14) (.cons (.var 15) (.cons (.conv .u64 (.var 16)) (.cons (.conv .u64 (.var 17)) .nil)))) 18
     (.call 6 [.int .u64, .int .u64, .int .i64, .int .i64] (.cons (.var 18) (.cons (.var 19) (.cons (.var 16) (.cons (.var 17) .nil)))) 20
     (.call 0 [.bool] (.cons (.var 20) (.cons (.var 21) (.cons (.var 22) (.cons (.var 23) .nil)))) 24
     (.br (.bvar 24)
     (.call 2 [.int .u64, .int .u64] (.cons (.var 20) (.cons (.var 21) (.cons (.var 22) (.cons (.var 23) .nil)))) 25
      (.call 3 [.int .i64, .int .i64] (.cons (.var 20) (.cons (.var 21) (.cons (.var 22) (.cons (.var 23) .nil)))) 27
      (.br (.eq (.bin .shr .u64 (.var 25) (.lit 63)) (.bin .shr .u64 (.var 26) (.lit 63)))
      (.call 5 [.int .i64, .int .i64] (.cons (.var 27) (.cons (.var 28) (.cons (.conv .i64 (.var 25)) (.cons (.conv .i64 (.var 26)) .nil)))) 29
       (.call 6 [.int .u64, .int .u64, .int .i64, .int .i64] (.cons (.var 25) (.cons (.var 26) (.cons (.var 29) (.cons (.var 30) .nil)))) 31
       (.call 0 [.bool] (.cons (.var 31) (.cons (.var 32) (.cons (.var 33) (.cons (.var 34) .nil)))) 35
       (.br (.bvar 35)
       (.call 2 [.int .u64, .int .u64] (.cons (.var 31) (.cons (.var 32) (.cons (.var 33) (.cons (.var 34) .nil)))) 36
        (.call 3 [.int .i64, .int .i64] (.cons (.var 31) (.cons (.var 32) (.cons (.var 33) (.cons (.var 34) .nil)))) 38
        (.leaf (.tup [(true, [.int .u64 (.var 31), .int .u64 (.var 32), .int .i64 (.var 33), .int .i64 (.var 34)]), (false, [.bool (.tt true)])]))))
       (.call 1 [.int .u64, .int .u64, .int .i64, .int .i64] .nil 36
        (.leaf (.tup [(true, [.int .u64 (.var 36), .int .u64 (.var 37), .int .i64 (.var 38), .int .i64 (.var 39)]), (false, [.bool (.tt false)])])))))))
      (.call 6 [.int .u64, .int .u64, .int .i64, .int .i64] (.cons (.var 25) (.cons (.var 26) (.cons (.var 27) (.cons (.var 28) .nil)))) 29
       (.call 0 [.bool] (.cons (.var 29) (.cons (.var 30) (.cons (.var 31) (.cons (.var 32) .nil)))) 33
       (.br (.bvar 33)
       (.call 2 [.int .u64, .int .u64] (.cons (.var 29) (.cons (.var 30) (.cons (.var 31) (.cons (.var 32) .nil)))) 34
        (.call 3 [.int .i64, .int .i64] (.cons (.var 29) (.cons (.var 30) (.cons (.var 31) (.cons (.var 32) .nil)))) 36
        (.leaf (.tup [(true, [.int .u64 (.var 29), .int .u64 (.var 30), .int .i64 (.var 31), .int .i64 (.var 32)]), (false, [.bool (.tt true)])]))))
       (.call 1 [.int .u64, .int .u64, .int .i64, .int .i64] .nil 34
        (.leaf (.tup [(true, [.int .u64 (.var 34), .int .u64 (.var 35), .int .i64 (.var 36), .int .i64 (.var 37)]), (false, [.bool (.tt false)])])))))))))
     (.call 1 [.int .u64, .int .u64, .int .i64, .int .i64] .nil 25
      (.leaf (.tup [(true, [.int .u64 (.var 25), .int .u64 (.var 26), .int .i64 (.var 27), .int .i64 (.var 28)]), (false, [.bool (.tt false)])])))))))
    (.call 6 [.int .u64, .int .u64, .int .i64, .int .i64] (.cons (.var 14) (.cons (.var 15) (.cons (.var 16) (.cons (.var 17) .nil)))) 18
     (.call 0 [.bool] (.cons (.var 18) (.cons (.var 19) (.cons (.var 20) (.cons (.var 21) .nil)))) 22
     (.br (.bvar 22)
     (.call 2 [.int .u64, .int .u64] (.cons (.var 18) (.cons (.var 19) (.cons (.var 20) (.cons (.var 21) .nil)))) 23
      (.call 3 [.int .i64, .int .i64] (.cons (.var 18) (.cons (.var 19) (.cons (.var 20) (.cons (.var 21) .nil)))) 25
      (.br (.eq (.bin .shr .u64 (.var 23) (.lit 63)) (.bin .shr .u64 (.var 24) (.lit 63)))
      (.call 5 [.int .i64, .int .i64] (.cons (.var 25) (.cons (.var 26) (.cons (.conv .i64 (.var 23)) (.cons (.conv .i64 (.var 24)) .nil)))) 27
       (.call 6 [.int .u64, .int .u64, .int .i64, .int .i64] (.cons (.var 23) (.cons (.var 24) (.cons (.var 27) (.cons (.var 28) .nil)))) 29
       (.call 0 [.bool] (.cons (.var 29) (.cons (.var 30) (.cons (.var 31) (.cons (.var 32) .nil)))) 33
       (.br (.bvar 33)
       (.call 2 [.int .u64, .int .u64] (.cons (.var 29) (.cons (.var 30) (.cons (.var 31) (.cons (.var 32) .nil)))) 34
        (.call 3 [.int .i64, .int .i64] (.cons (.var 29) (.cons (.var 30) (.cons (.var 31) (.cons (.var 32) .nil)))) 36
        (.leaf (.tup [(true, [.int .u64 (.var 29), .int .u64 (.var 30), .int .i64 (.var 31), .int .i64 (.var 32)]), (false, [.bool (.tt true)])]))))
       (.call 1 [.int .u64, .int .u64, .int .i64, .int .i64] .nil 34
        (.leaf (.tup [(true, [.int .u64 (.var 34), .int .u64 (.var 35), .int .i64 (.var 36), .int .i64 (.var 37)]), (false, [.bool (.tt false)])])))))))
      (.call 6 [.int .u64, .int .u64, .int .i64, .int .i64] (.cons (.var 23) (.cons (.var 24) (.cons (.var 25) (.cons (.var 26) .nil)))) 27
       (.call 0 [.bool] (.cons (.var 27) (.cons (.var 28) (.cons (.var 29) (.cons (.var 30) .nil)))) 31
       (.br (.bvar 31)
       (.call 2 [.int .u64, .int .u64] (.cons (.var 27) (.cons (.var 28) (.cons (.var 29) (.cons (.var 30) .nil)))) 32
        (.call 3 [.int .i64, .int .i64] (.cons (.var 27) (.cons (.var 28) (.cons (.var 29) (.cons (.var 30) .nil)))) 34
        (.leaf (.tup [(true, [.int .u64 (.var 27), .int .u64 (.var 28), .int .i64 (.var 29), .int .i64 (.var 30)]), (false, [.bool (.tt true)])]))))
       (.call 1 [.int .u64, .int .u64, .int .i64, .int .i64] .nil 32
        (.leaf (.tup [(true, [.int .u64 (.var 32), .int .u64 (.var 33), .int .i64 (.var 34), .int .i64 (.var 35)]), (false, [.bool (.tt false)])])))))))))
     (.call 1 [.int .u64, .int .u64, .int .i64, .int .i64] .nil 23
      (.leaf (.tup [(true, [.int .u64 (.var 23), .int .u64 (.var 24), .int .i64 (.var 25), .int .i64 (.var 26)]), (false, [.bool (.tt false)])])))))))))
   (.call 1 [.int .u64, .int .u64, .int .i64, .int .i64] .nil 14
    (.leaf (.tup [(true, [.int .u64 (.var 14), .int .u64 (.var 15), .int .i64 (.var 16), .int .i64 (.var 17)]), (false, [.bool (.tt false)])])))))))))
 (.call 1 [.int .u64, .int .u64, .int .i64, .int .i64] .nil 5
  (.leaf (.tup [(true, [.int .u64 (.var 5), .int .u64 (.var 6), .int .i64 (.var 7), .int .i64 (.var 8)]), (false, [.bool (.tt false)])])))))
def sP_nar : Spec := ⟨fun k => match k with | 0 => sI_may | 1 => sI_all | 2 => sI_uns | 3 => sI_sig | 4 => sI_umeet | 5 => sI_imeet | 6 => sI_of | _ => fun _ _ => 0, fun k => match k with | 0 => sB_may | 1 => sB_all | 2 => sB_uns | 3 => sB_sig | 4 => sB_umeet | 5 => sB_imeet | 6 => sB_of | _ => fun _ _ => false⟩
set_option maxRecDepth 100000 in
theorem sR_nar : funK ⟨tys_XbB, [sM_may 0, sM_all 1, sM_uns 2, sM_sig 3, sM_umeet 4, sM_imeet 5, sM_of 6]⟩ 200 Try.f11 [.agg [.int .u64 (.var 0), .int .u64 (.var 1), .int .i64 (.var 2), .int .i64 (.var 3)]] ⟨[], [], [some .u64, some .u64, some .i64, some .i64]⟩ = sT_nar := by kernel_rfl
set_option maxRecDepth 100000 in
set_option maxHeartbeats 8000000 in
theorem sX_nar (a : Rg) (ha : Rg.ok a) : (∀ w, Calls Try.prog 11 #[.agg #[.int .u64 a.ul, .int .u64 a.uh, .int .i64 a.sl, .int .i64 a.sh]] w fun e w' => e = .returned (.tuple #[.agg #[.int .u64 (bnar a).ul, .int .u64 (bnar a).uh, .int .i64 (bnar a).sl, .int .i64 (bnar a).sh], .bool (bnok a)]) ∧ Ext w w') ∧ valIn (.tuple #[.agg #[.int .u64 (bnar a).ul, .int .u64 (bnar a).uh, .int .i64 (bnar a).sl, .int .i64 (bnar a).sh], .bool (bnok a)]) = true := by
  refine fun_calls (cx := ⟨tys_XbB, [sM_may 0, sM_all 1, sM_uns 2, sM_sig 3, sM_umeet 4, sM_imeet 5, sM_of 6]⟩) (sp := sP_nar) (t := sT_nar) (by kernel_rfl) tysok_XbB (List.forall_mem_cons.2 ⟨sK_may rfl rfl, List.forall_mem_cons.2 ⟨sK_all rfl rfl, List.forall_mem_cons.2 ⟨sK_uns rfl rfl, List.forall_mem_cons.2 ⟨sK_sig rfl rfl, List.forall_mem_cons.2 ⟨sK_umeet rfl rfl, List.forall_mem_cons.2 ⟨sK_imeet rfl rfl, List.forall_mem_cons.2 ⟨sK_of rfl rfl, fun _ h => (by cases h)⟩⟩⟩⟩⟩⟩⟩) (keys_of (by kernel_rfl)) Try.func11 ⟨fun n => ([a.ul, a.uh, a.sl, a.sh] : List Int).getD n 0, fun n => ([false, false, false, false] : List Bool).getD n false⟩ sR_nar (by kernel_rfl) ?_ rfl (by intro p hp; cases hp) ?_ ?_
  · intro n k hk
    have hlt : n < 4 := by
      rcases Nat.lt_or_ge n 4 with h | h
      · exact h
      · rw [List.getElem?_eq_none h] at hk; cases hk
    rcases (show n = 0 ∨ n = 1 ∨ n = 2 ∨ n = 3 by omega) with rfl | rfl | rfl | rfl
    · cases hk; exact ha.1
    · cases hk; exact ha.2.1
    · cases hk; exact ha.2.2.1
    · cases hk; exact ha.2.2.2
  · intro ρ hag
    have g0 : ρ.i 0 = a.ul := (hag 0 (by decide)).1.symm
    have g1 : ρ.i 1 = a.uh := (hag 1 (by decide)).1.symm
    have g2 : ρ.i 2 = a.sl := (hag 2 (by decide)).1.symm
    have g3 : ρ.i 3 = a.sh := (hag 3 (by decide)).1.symm
    show some ([.agg #[.int .u64 (ρ.i 0), .int .u64 (ρ.i 1), .int .i64 (ρ.i 2), .int .i64 (ρ.i 3)]] : List Value) = _
    rw [g0, g1, g2, g3]
  · intro ρ hag
    have g0 : ρ.i 0 = a.ul := (hag 0 (by decide)).1.symm
    have g1 : ρ.i 1 = a.uh := (hag 1 (by decide)).1.symm
    have g2 : ρ.i 2 = a.sl := (hag 2 (by decide)).1.symm
    have g3 : ρ.i 3 = a.sh := (hag 3 (by decide)).1.symm
    simp only [sT_nar, Tr.asks, eqs, E.I, E.B, E.L, V.den, C.den, denL, den0, den0L, Option.map_some, Nat.add_zero, Nat.reduceAdd, and_true, Rg.eta, g0, g1, g2, g3]
    simp only [sP_nar, b01, Pi.eta, Pu.eta, Rg.eta, sI_may, sB_may, sI_all, sB_all, sI_uns, sB_uns, sI_sig, sB_sig, sI_umeet, sB_umeet, sI_imeet, sB_imeet, sI_of, sB_of]
    have wfg := Rg.wf_of ha
    intro e4
    (try simp only [e4, Pi.eta, Pu.eta, Rg.eta])
    (try clear e4)
    refine ⟨fun c0 => ?_, fun c0 => ?_⟩
    · skip
      rintro ⟨e5, e6⟩
      (try simp only [e5, e6, Pi.eta, Pu.eta, Rg.eta])
      (try clear e5 e6)
      rintro ⟨e7, e8⟩
      (try simp only [e7, e8, Pi.eta, Pu.eta, Rg.eta])
      (try clear e7 e8)
      refine ⟨fun c1 => ?_, fun c1 => ?_⟩
      · skip
        rintro ⟨e9, e10⟩
        (try simp only [e9, e10, Pi.eta, Pu.eta, Rg.eta])
        (try clear e9 e10)
        rintro ⟨e11, e12, e13, e14⟩
        (try simp only [e11, e12, e13, e14, Pi.eta, Pu.eta, Rg.eta])
        (try clear e11 e12 e13 e14)
        intro e15
        (try simp only [e15, Pi.eta, Pu.eta, Rg.eta])
        (try clear e15)
        refine ⟨fun c2 => ?_, fun c2 => ?_⟩
        · skip
          rintro ⟨e16, e17⟩
          (try simp only [e16, e17, Pi.eta, Pu.eta, Rg.eta])
          (try clear e16 e17)
          rintro ⟨e18, e19⟩
          (try simp only [e18, e19, Pi.eta, Pu.eta, Rg.eta])
          (try clear e18 e19)
          refine ⟨fun c3 => ?_, fun c3 => ?_⟩
          · skip
            rintro ⟨e20, e21⟩
            (try simp only [e20, e21, Pi.eta, Pu.eta, Rg.eta])
            (try clear e20 e21)
            rintro ⟨e22, e23, e24, e25⟩
            (try simp only [e22, e23, e24, e25, Pi.eta, Pu.eta, Rg.eta])
            (try clear e22 e23 e24 e25)
            intro e26
            (try simp only [e26, Pi.eta, Pu.eta, Rg.eta])
            (try clear e26)
            refine ⟨fun c4 => ?_, fun c4 => ?_⟩
            · skip
              rintro ⟨e27, e28⟩
              (try simp only [e27, e28, Pi.eta, Pu.eta, Rg.eta])
              (try clear e27 e28)
              rintro ⟨e29, e30⟩
              (try simp only [e29, e30, Pi.eta, Pu.eta, Rg.eta])
              (try clear e29 e30)
              refine ⟨fun c5 => ?_, fun c5 => ?_⟩
              · skip
                rintro ⟨e31, e32⟩
                (try simp only [e31, e32, Pi.eta, Pu.eta, Rg.eta])
                (try clear e31 e32)
                rintro ⟨e33, e34, e35, e36⟩
                (try simp only [e33, e34, e35, e36, Pi.eta, Pu.eta, Rg.eta])
                (try clear e33 e34 e35 e36)
                intro e37
                (try simp only [e37, Pi.eta, Pu.eta, Rg.eta])
                (try clear e37)
                refine ⟨fun c6 => ?_, fun c6 => ?_⟩
                · skip
                  rintro ⟨e38, e39⟩
                  (try simp only [e38, e39, Pi.eta, Pu.eta, Rg.eta])
                  (try clear e38 e39)
                  rintro ⟨e40, e41⟩
                  (try simp only [e40, e41, Pi.eta, Pu.eta, Rg.eta])
                  (try clear e40 e41)
                  all_goals
                    refine congrArg some ?_
                    (have s1 := sgn_t (wfg) (by exact c1); have s2 := uns_t (r := bsgn a) (by rw [s1]; exact c3); have s3 := sgn_t (wf_buns (wf_bsgn wfg)) (by rw [s2, s1]; exact c5); have hok : bnok a = true := (by unfold bnok; (try rw [s3, s2, s1]); (try rw [c0]); (try rw [c2]); (try rw [c4]); (try rw [c6]); (try rfl)); have hnar : bnar a = bsgn (buns (bsgn a)) := (by unfold bnar; rw [hok]; rfl); rw [hok, hnar]; rw [s3, s2, s1]; (try rfl))
                · skip
                  rintro ⟨e38, e39, e40, e41⟩
                  (try simp only [e38, e39, e40, e41, Pi.eta, Pu.eta, Rg.eta])
                  (try clear e38 e39 e40 e41)
                  all_goals
                    refine congrArg some ?_
                    (have s1 := sgn_t (wfg) (by exact c1); have s2 := uns_t (r := bsgn a) (by rw [s1]; exact c3); have s3 := sgn_t (wf_buns (wf_bsgn wfg)) (by rw [s2, s1]; exact c5); have hok : bnok a = false := (by unfold bnok; (try rw [s3, s2, s1]); (try rw [c0]); (try rw [c2]); (try rw [c4]); (try rw [c6]); (try rfl)); have hnar : bnar a = ball := (by unfold bnar; rw [hok]; rfl); rw [hok, hnar]; (try rfl))
              · skip
                rintro ⟨e31, e32, e33, e34⟩
                (try simp only [e31, e32, e33, e34, Pi.eta, Pu.eta, Rg.eta])
                (try clear e31 e32 e33 e34)
                intro e35
                (try simp only [e35, Pi.eta, Pu.eta, Rg.eta])
                (try clear e35)
                refine ⟨fun c7 => ?_, fun c7 => ?_⟩
                · skip
                  rintro ⟨e36, e37⟩
                  (try simp only [e36, e37, Pi.eta, Pu.eta, Rg.eta])
                  (try clear e36 e37)
                  rintro ⟨e38, e39⟩
                  (try simp only [e38, e39, Pi.eta, Pu.eta, Rg.eta])
                  (try clear e38 e39)
                  all_goals
                    refine congrArg some ?_
                    (have s1 := sgn_t (wfg) (by exact c1); have s2 := uns_t (r := bsgn a) (by rw [s1]; exact c3); have s3 := sgn_f (wf_buns (wf_bsgn wfg)) (by rw [s2, s1]; exact c5); have hok : bnok a = true := (by unfold bnok; (try rw [s3, s2, s1]); (try rw [c0]); (try rw [c2]); (try rw [c4]); (try rw [c7]); (try rfl)); have hnar : bnar a = bsgn (buns (bsgn a)) := (by unfold bnar; rw [hok]; rfl); rw [hok, hnar]; rw [s3, s2, s1]; (try rfl))
                · skip
                  rintro ⟨e36, e37, e38, e39⟩
                  (try simp only [e36, e37, e38, e39, Pi.eta, Pu.eta, Rg.eta])
                  (try clear e36 e37 e38 e39)
                  all_goals
                    refine congrArg some ?_
                    exact absurd (c4.symm.trans c7) (by simp)
            · skip
              rintro ⟨e27, e28, e29, e30⟩
              (try simp only [e27, e28, e29, e30, Pi.eta, Pu.eta, Rg.eta])
              (try clear e27 e28 e29 e30)
              all_goals
                refine congrArg some ?_
                (have s1 := sgn_t (wfg) (by exact c1); have s2 := uns_t (r := bsgn a) (by rw [s1]; exact c3); have hok : bnok a = false := (by unfold bnok; (try rw [s2, s1]); (try rw [c0]); (try rw [c2]); (try rw [c4]); (try rfl)); have hnar : bnar a = ball := (by unfold bnar; rw [hok]; rfl); rw [hok, hnar]; (try rfl))
          · skip
            rintro ⟨e20, e21, e22, e23⟩
            (try simp only [e20, e21, e22, e23, Pi.eta, Pu.eta, Rg.eta])
            (try clear e20 e21 e22 e23)
            intro e24
            (try simp only [e24, Pi.eta, Pu.eta, Rg.eta])
            (try clear e24)
            refine ⟨fun c8 => ?_, fun c8 => ?_⟩
            · skip
              rintro ⟨e25, e26⟩
              (try simp only [e25, e26, Pi.eta, Pu.eta, Rg.eta])
              (try clear e25 e26)
              rintro ⟨e27, e28⟩
              (try simp only [e27, e28, Pi.eta, Pu.eta, Rg.eta])
              (try clear e27 e28)
              refine ⟨fun c9 => ?_, fun c9 => ?_⟩
              · skip
                rintro ⟨e29, e30⟩
                (try simp only [e29, e30, Pi.eta, Pu.eta, Rg.eta])
                (try clear e29 e30)
                rintro ⟨e31, e32, e33, e34⟩
                (try simp only [e31, e32, e33, e34, Pi.eta, Pu.eta, Rg.eta])
                (try clear e31 e32 e33 e34)
                intro e35
                (try simp only [e35, Pi.eta, Pu.eta, Rg.eta])
                (try clear e35)
                refine ⟨fun c10 => ?_, fun c10 => ?_⟩
                · skip
                  rintro ⟨e36, e37⟩
                  (try simp only [e36, e37, Pi.eta, Pu.eta, Rg.eta])
                  (try clear e36 e37)
                  rintro ⟨e38, e39⟩
                  (try simp only [e38, e39, Pi.eta, Pu.eta, Rg.eta])
                  (try clear e38 e39)
                  all_goals
                    refine congrArg some ?_
                    (have s1 := sgn_t (wfg) (by exact c1); have s2 := uns_f (r := bsgn a) (by rw [s1]; exact c3); have s3 := sgn_t (wf_buns (wf_bsgn wfg)) (by rw [s2, s1]; exact c9); have hok : bnok a = true := (by unfold bnok; (try rw [s3, s2, s1]); (try rw [c0]); (try rw [c2]); (try rw [c8]); (try rw [c10]); (try rfl)); have hnar : bnar a = bsgn (buns (bsgn a)) := (by unfold bnar; rw [hok]; rfl); rw [hok, hnar]; rw [s3, s2, s1]; (try rfl))
                · skip
                  rintro ⟨e36, e37, e38, e39⟩
                  (try simp only [e36, e37, e38, e39, Pi.eta, Pu.eta, Rg.eta])
                  (try clear e36 e37 e38 e39)
                  all_goals
                    refine congrArg some ?_
                    (have s1 := sgn_t (wfg) (by exact c1); have s2 := uns_f (r := bsgn a) (by rw [s1]; exact c3); have s3 := sgn_t (wf_buns (wf_bsgn wfg)) (by rw [s2, s1]; exact c9); have hok : bnok a = false := (by unfold bnok; (try rw [s3, s2, s1]); (try rw [c0]); (try rw [c2]); (try rw [c8]); (try rw [c10]); (try rfl)); have hnar : bnar a = ball := (by unfold bnar; rw [hok]; rfl); rw [hok, hnar]; (try rfl))
              · skip
                rintro ⟨e29, e30, e31, e32⟩
                (try simp only [e29, e30, e31, e32, Pi.eta, Pu.eta, Rg.eta])
                (try clear e29 e30 e31 e32)
                intro e33
                (try simp only [e33, Pi.eta, Pu.eta, Rg.eta])
                (try clear e33)
                refine ⟨fun c11 => ?_, fun c11 => ?_⟩
                · skip
                  rintro ⟨e34, e35⟩
                  (try simp only [e34, e35, Pi.eta, Pu.eta, Rg.eta])
                  (try clear e34 e35)
                  rintro ⟨e36, e37⟩
                  (try simp only [e36, e37, Pi.eta, Pu.eta, Rg.eta])
                  (try clear e36 e37)
                  all_goals
                    refine congrArg some ?_
                    (have s1 := sgn_t (wfg) (by exact c1); have s2 := uns_f (r := bsgn a) (by rw [s1]; exact c3); have s3 := sgn_f (wf_buns (wf_bsgn wfg)) (by rw [s2, s1]; exact c9); have hok : bnok a = true := (by unfold bnok; (try rw [s3, s2, s1]); (try rw [c0]); (try rw [c2]); (try rw [c8]); (try rw [c11]); (try rfl)); have hnar : bnar a = bsgn (buns (bsgn a)) := (by unfold bnar; rw [hok]; rfl); rw [hok, hnar]; rw [s3, s2, s1]; (try rfl))
                · skip
                  rintro ⟨e34, e35, e36, e37⟩
                  (try simp only [e34, e35, e36, e37, Pi.eta, Pu.eta, Rg.eta])
                  (try clear e34 e35 e36 e37)
                  all_goals
                    refine congrArg some ?_
                    exact absurd (c8.symm.trans c11) (by simp)
            · skip
              rintro ⟨e25, e26, e27, e28⟩
              (try simp only [e25, e26, e27, e28, Pi.eta, Pu.eta, Rg.eta])
              (try clear e25 e26 e27 e28)
              all_goals
                refine congrArg some ?_
                exact absurd (c2.symm.trans c8) (by simp)
        · skip
          rintro ⟨e16, e17, e18, e19⟩
          (try simp only [e16, e17, e18, e19, Pi.eta, Pu.eta, Rg.eta])
          (try clear e16 e17 e18 e19)
          all_goals
            refine congrArg some ?_
            (have s1 := sgn_t (wfg) (by exact c1); have hok : bnok a = false := (by unfold bnok; (try rw [s1]); (try rw [c0]); (try rw [c2]); (try rfl)); have hnar : bnar a = ball := (by unfold bnar; rw [hok]; rfl); rw [hok, hnar]; (try rfl))
      · skip
        rintro ⟨e9, e10, e11, e12⟩
        (try simp only [e9, e10, e11, e12, Pi.eta, Pu.eta, Rg.eta])
        (try clear e9 e10 e11 e12)
        intro e13
        (try simp only [e13, Pi.eta, Pu.eta, Rg.eta])
        (try clear e13)
        refine ⟨fun c12 => ?_, fun c12 => ?_⟩
        · skip
          rintro ⟨e14, e15⟩
          (try simp only [e14, e15, Pi.eta, Pu.eta, Rg.eta])
          (try clear e14 e15)
          rintro ⟨e16, e17⟩
          (try simp only [e16, e17, Pi.eta, Pu.eta, Rg.eta])
          (try clear e16 e17)
          refine ⟨fun c13 => ?_, fun c13 => ?_⟩
          · skip
            rintro ⟨e18, e19⟩
            (try simp only [e18, e19, Pi.eta, Pu.eta, Rg.eta])
            (try clear e18 e19)
            rintro ⟨e20, e21, e22, e23⟩
            (try simp only [e20, e21, e22, e23, Pi.eta, Pu.eta, Rg.eta])
            (try clear e20 e21 e22 e23)
            intro e24
            (try simp only [e24, Pi.eta, Pu.eta, Rg.eta])
            (try clear e24)
            refine ⟨fun c14 => ?_, fun c14 => ?_⟩
            · skip
              rintro ⟨e25, e26⟩
              (try simp only [e25, e26, Pi.eta, Pu.eta, Rg.eta])
              (try clear e25 e26)
              rintro ⟨e27, e28⟩
              (try simp only [e27, e28, Pi.eta, Pu.eta, Rg.eta])
              (try clear e27 e28)
              refine ⟨fun c15 => ?_, fun c15 => ?_⟩
              · skip
                rintro ⟨e29, e30⟩
                (try simp only [e29, e30, Pi.eta, Pu.eta, Rg.eta])
                (try clear e29 e30)
                rintro ⟨e31, e32, e33, e34⟩
                (try simp only [e31, e32, e33, e34, Pi.eta, Pu.eta, Rg.eta])
                (try clear e31 e32 e33 e34)
                intro e35
                (try simp only [e35, Pi.eta, Pu.eta, Rg.eta])
                (try clear e35)
                refine ⟨fun c16 => ?_, fun c16 => ?_⟩
                · skip
                  rintro ⟨e36, e37⟩
                  (try simp only [e36, e37, Pi.eta, Pu.eta, Rg.eta])
                  (try clear e36 e37)
                  rintro ⟨e38, e39⟩
                  (try simp only [e38, e39, Pi.eta, Pu.eta, Rg.eta])
                  (try clear e38 e39)
                  all_goals
                    refine congrArg some ?_
                    (have s1 := sgn_f (wfg) (by exact c1); have s2 := uns_t (r := bsgn a) (by rw [s1]; exact c13); have s3 := sgn_t (wf_buns (wf_bsgn wfg)) (by rw [s2, s1]; exact c15); have hok : bnok a = true := (by unfold bnok; (try rw [s3, s2, s1]); (try rw [c0]); (try rw [c12]); (try rw [c14]); (try rw [c16]); (try rfl)); have hnar : bnar a = bsgn (buns (bsgn a)) := (by unfold bnar; rw [hok]; rfl); rw [hok, hnar]; rw [s3, s2, s1]; (try rfl))
                · skip
                  rintro ⟨e36, e37, e38, e39⟩
                  (try simp only [e36, e37, e38, e39, Pi.eta, Pu.eta, Rg.eta])
                  (try clear e36 e37 e38 e39)
                  all_goals
                    refine congrArg some ?_
                    (have s1 := sgn_f (wfg) (by exact c1); have s2 := uns_t (r := bsgn a) (by rw [s1]; exact c13); have s3 := sgn_t (wf_buns (wf_bsgn wfg)) (by rw [s2, s1]; exact c15); have hok : bnok a = false := (by unfold bnok; (try rw [s3, s2, s1]); (try rw [c0]); (try rw [c12]); (try rw [c14]); (try rw [c16]); (try rfl)); have hnar : bnar a = ball := (by unfold bnar; rw [hok]; rfl); rw [hok, hnar]; (try rfl))
              · skip
                rintro ⟨e29, e30, e31, e32⟩
                (try simp only [e29, e30, e31, e32, Pi.eta, Pu.eta, Rg.eta])
                (try clear e29 e30 e31 e32)
                intro e33
                (try simp only [e33, Pi.eta, Pu.eta, Rg.eta])
                (try clear e33)
                refine ⟨fun c17 => ?_, fun c17 => ?_⟩
                · skip
                  rintro ⟨e34, e35⟩
                  (try simp only [e34, e35, Pi.eta, Pu.eta, Rg.eta])
                  (try clear e34 e35)
                  rintro ⟨e36, e37⟩
                  (try simp only [e36, e37, Pi.eta, Pu.eta, Rg.eta])
                  (try clear e36 e37)
                  all_goals
                    refine congrArg some ?_
                    (have s1 := sgn_f (wfg) (by exact c1); have s2 := uns_t (r := bsgn a) (by rw [s1]; exact c13); have s3 := sgn_f (wf_buns (wf_bsgn wfg)) (by rw [s2, s1]; exact c15); have hok : bnok a = true := (by unfold bnok; (try rw [s3, s2, s1]); (try rw [c0]); (try rw [c12]); (try rw [c14]); (try rw [c17]); (try rfl)); have hnar : bnar a = bsgn (buns (bsgn a)) := (by unfold bnar; rw [hok]; rfl); rw [hok, hnar]; rw [s3, s2, s1]; (try rfl))
                · skip
                  rintro ⟨e34, e35, e36, e37⟩
                  (try simp only [e34, e35, e36, e37, Pi.eta, Pu.eta, Rg.eta])
                  (try clear e34 e35 e36 e37)
                  all_goals
                    refine congrArg some ?_
                    exact absurd (c14.symm.trans c17) (by simp)
            · skip
              rintro ⟨e25, e26, e27, e28⟩
              (try simp only [e25, e26, e27, e28, Pi.eta, Pu.eta, Rg.eta])
              (try clear e25 e26 e27 e28)
              all_goals
                refine congrArg some ?_
                (have s1 := sgn_f (wfg) (by exact c1); have s2 := uns_t (r := bsgn a) (by rw [s1]; exact c13); have hok : bnok a = false := (by unfold bnok; (try rw [s2, s1]); (try rw [c0]); (try rw [c12]); (try rw [c14]); (try rfl)); have hnar : bnar a = ball := (by unfold bnar; rw [hok]; rfl); rw [hok, hnar]; (try rfl))
          · skip
            rintro ⟨e18, e19, e20, e21⟩
            (try simp only [e18, e19, e20, e21, Pi.eta, Pu.eta, Rg.eta])
            (try clear e18 e19 e20 e21)
            intro e22
            (try simp only [e22, Pi.eta, Pu.eta, Rg.eta])
            (try clear e22)
            refine ⟨fun c18 => ?_, fun c18 => ?_⟩
            · skip
              rintro ⟨e23, e24⟩
              (try simp only [e23, e24, Pi.eta, Pu.eta, Rg.eta])
              (try clear e23 e24)
              rintro ⟨e25, e26⟩
              (try simp only [e25, e26, Pi.eta, Pu.eta, Rg.eta])
              (try clear e25 e26)
              refine ⟨fun c19 => ?_, fun c19 => ?_⟩
              · skip
                rintro ⟨e27, e28⟩
                (try simp only [e27, e28, Pi.eta, Pu.eta, Rg.eta])
                (try clear e27 e28)
                rintro ⟨e29, e30, e31, e32⟩
                (try simp only [e29, e30, e31, e32, Pi.eta, Pu.eta, Rg.eta])
                (try clear e29 e30 e31 e32)
                intro e33
                (try simp only [e33, Pi.eta, Pu.eta, Rg.eta])
                (try clear e33)
                refine ⟨fun c20 => ?_, fun c20 => ?_⟩
                · skip
                  rintro ⟨e34, e35⟩
                  (try simp only [e34, e35, Pi.eta, Pu.eta, Rg.eta])
                  (try clear e34 e35)
                  rintro ⟨e36, e37⟩
                  (try simp only [e36, e37, Pi.eta, Pu.eta, Rg.eta])
                  (try clear e36 e37)
                  all_goals
                    refine congrArg some ?_
                    (have s1 := sgn_f (wfg) (by exact c1); have s2 := uns_f (r := bsgn a) (by rw [s1]; exact c13); have s3 := sgn_t (wf_buns (wf_bsgn wfg)) (by rw [s2, s1]; exact c19); have hok : bnok a = true := (by unfold bnok; (try rw [s3, s2, s1]); (try rw [c0]); (try rw [c12]); (try rw [c18]); (try rw [c20]); (try rfl)); have hnar : bnar a = bsgn (buns (bsgn a)) := (by unfold bnar; rw [hok]; rfl); rw [hok, hnar]; rw [s3, s2, s1]; (try rfl))
                · skip
                  rintro ⟨e34, e35, e36, e37⟩
                  (try simp only [e34, e35, e36, e37, Pi.eta, Pu.eta, Rg.eta])
                  (try clear e34 e35 e36 e37)
                  all_goals
                    refine congrArg some ?_
                    (have s1 := sgn_f (wfg) (by exact c1); have s2 := uns_f (r := bsgn a) (by rw [s1]; exact c13); have s3 := sgn_t (wf_buns (wf_bsgn wfg)) (by rw [s2, s1]; exact c19); have hok : bnok a = false := (by unfold bnok; (try rw [s3, s2, s1]); (try rw [c0]); (try rw [c12]); (try rw [c18]); (try rw [c20]); (try rfl)); have hnar : bnar a = ball := (by unfold bnar; rw [hok]; rfl); rw [hok, hnar]; (try rfl))
              · skip
                rintro ⟨e27, e28, e29, e30⟩
                (try simp only [e27, e28, e29, e30, Pi.eta, Pu.eta, Rg.eta])
                (try clear e27 e28 e29 e30)
                intro e31
                (try simp only [e31, Pi.eta, Pu.eta, Rg.eta])
                (try clear e31)
                refine ⟨fun c21 => ?_, fun c21 => ?_⟩
                · skip
                  rintro ⟨e32, e33⟩
                  (try simp only [e32, e33, Pi.eta, Pu.eta, Rg.eta])
                  (try clear e32 e33)
                  rintro ⟨e34, e35⟩
                  (try simp only [e34, e35, Pi.eta, Pu.eta, Rg.eta])
                  (try clear e34 e35)
                  all_goals
                    refine congrArg some ?_
                    (have s1 := sgn_f (wfg) (by exact c1); have s2 := uns_f (r := bsgn a) (by rw [s1]; exact c13); have s3 := sgn_f (wf_buns (wf_bsgn wfg)) (by rw [s2, s1]; exact c19); have hok : bnok a = true := (by unfold bnok; (try rw [s3, s2, s1]); (try rw [c0]); (try rw [c12]); (try rw [c18]); (try rw [c21]); (try rfl)); have hnar : bnar a = bsgn (buns (bsgn a)) := (by unfold bnar; rw [hok]; rfl); rw [hok, hnar]; rw [s3, s2, s1]; (try rfl))
                · skip
                  rintro ⟨e32, e33, e34, e35⟩
                  (try simp only [e32, e33, e34, e35, Pi.eta, Pu.eta, Rg.eta])
                  (try clear e32 e33 e34 e35)
                  all_goals
                    refine congrArg some ?_
                    exact absurd (c18.symm.trans c21) (by simp)
            · skip
              rintro ⟨e23, e24, e25, e26⟩
              (try simp only [e23, e24, e25, e26, Pi.eta, Pu.eta, Rg.eta])
              (try clear e23 e24 e25 e26)
              all_goals
                refine congrArg some ?_
                exact absurd (c12.symm.trans c18) (by simp)
        · skip
          rintro ⟨e14, e15, e16, e17⟩
          (try simp only [e14, e15, e16, e17, Pi.eta, Pu.eta, Rg.eta])
          (try clear e14 e15 e16 e17)
          all_goals
            refine congrArg some ?_
            exact absurd (c0.symm.trans c12) (by simp)
    · skip
      rintro ⟨e5, e6, e7, e8⟩
      (try simp only [e5, e6, e7, e8, Pi.eta, Pu.eta, Rg.eta])
      (try clear e5 e6 e7 e8)
      all_goals
        refine congrArg some ?_
        (have hok : bnok a = false := (by unfold bnok; (try rw [hok]); (try rw [c0]); (try rfl)); have hnar : bnar a = ball := (by unfold bnar; rw [hok]; rfl); rw [hok, hnar]; (try rfl))
def sM_nar (key : Nat) : Sm := ⟨11, key, [(true, [.int .u64, .int .u64, .int .i64, .int .i64])], [(true, [.int .u64, .int .u64, .int .i64, .int .i64]), (false, [.bool])], true⟩
def sI_nar : Nat → List Int → Int
  | 0, [x0, x1, x2, x3] => (fun (a : Rg) => (bnar a).ul) ⟨x0, x1, x2, x3⟩
  | 1, [x0, x1, x2, x3] => (fun (a : Rg) => (bnar a).uh) ⟨x0, x1, x2, x3⟩
  | 2, [x0, x1, x2, x3] => (fun (a : Rg) => (bnar a).sl) ⟨x0, x1, x2, x3⟩
  | 3, [x0, x1, x2, x3] => (fun (a : Rg) => (bnar a).sh) ⟨x0, x1, x2, x3⟩
  | _, _ => 0
def sB_nar : Nat → List Int → Bool
  | 4, [x0, x1, x2, x3] => (fun (a : Rg) => bnok a) ⟨x0, x1, x2, x3⟩
  | _, _ => false
theorem sK_nar {sp : Spec} {key : Nat} (hI : sp.I key = sI_nar) (hB : sp.B key = sB_nar) : SmOk Try.prog sp (sM_nar key) := by
  refine SmOk.of (.inl ⟨run_enter Try.func11 (by kernel_rfl) (by kernel_rfl), fun xs vals h => ?_⟩) (.inl rfl)
  obtain ⟨_, _, _, p1, h1, rfl⟩ := shA h
  obtain ⟨_, _, _, d1_0, p1_0, rfl⟩ := cksC p1
  obtain ⟨x0, rfl, rfl, gx0⟩ := ckI d1_0
  obtain ⟨_, _, _, d1_1, p1_1, rfl⟩ := cksC p1_0
  obtain ⟨x1, rfl, rfl, gx1⟩ := ckI d1_1
  obtain ⟨_, _, _, d1_2, p1_2, rfl⟩ := cksC p1_1
  obtain ⟨x2, rfl, rfl, gx2⟩ := ckI d1_2
  obtain ⟨_, _, _, d1_3, p1_3, rfl⟩ := cksC p1_2
  obtain ⟨x3, rfl, rfl, gx3⟩ := ckI d1_3
  obtain ⟨rfl, rfl⟩ := cksN p1_3
  obtain ⟨rfl, rfl⟩ := shN h1
  refine ⟨_, sX_nar ⟨x0, x1, x2, x3⟩ ⟨gx0, gx1, gx2, gx3⟩, fun ρ v0 he => ?_⟩
  have he' : ρ.i (v0 + 0) = sp.I key 0 [x0, x1, x2, x3] ∧ ρ.i (v0 + 1) = sp.I key 1 [x0, x1, x2, x3] ∧ ρ.i (v0 + 2) = sp.I key 2 [x0, x1, x2, x3] ∧ ρ.i (v0 + 3) = sp.I key 3 [x0, x1, x2, x3] ∧ ρ.b (v0 + 4) = sp.B key 4 [x0, x1, x2, x3] ∧ True := he
  simp only [hI, hB] at he'
  obtain ⟨e0, e1, e2, e3, e4, -⟩ := he'
  show some (.tuple #[.agg #[.int .u64 (ρ.i (v0 + 0)), .int .u64 (ρ.i (v0 + 1)), .int .i64 (ρ.i (v0 + 2)), .int .i64 (ρ.i (v0 + 3))], .bool (ρ.b (v0 + 4))] : Value) = _
  rw [e0, e1, e2, e3, e4]
  rfl
def sT_plus : Tr :=
(.leaf (.tup [(false, [.int .i64 (.bin .add .i64 (.var 0) (.var 1))]), (false, [.bool (.not (.lt (.bin .and .i64 (.bin .xor .i64 (.var 0) (.bin .add .i64 (.var 0) (.var 1))) (.bin .xor .i64 (.var 1) (.bin .add .i64 (.var 0) (.var 1)))) (.lit 0)))])]))
def sP_plus : Spec := ⟨fun k => match k with | _ => fun _ _ => 0, fun k => match k with | _ => fun _ _ => false⟩
set_option maxRecDepth 100000 in
theorem sR_plus : funK ⟨tys_XbB, []⟩ 200 Try.f101 [.one (.int .i64 (.var 0)), .one (.int .i64 (.var 1))] ⟨[], [], [some .i64, some .i64]⟩ = sT_plus := by kernel_rfl
set_option maxRecDepth 100000 in
set_option maxHeartbeats 8000000 in
theorem sX_plus (a : Int) (ha : inK .i64 a = true) (b : Int) (hb : inK .i64 b = true) : (∀ w, Calls Try.prog 101 #[.int .i64 a, .int .i64 b] w fun e w' => e = .returned (.tuple #[.int .i64 (IntKind.i64.wrap (a + b)), .bool (decide (-9223372036854775808 ≤ a + b ∧ a + b ≤ 9223372036854775807))]) ∧ Ext w w') ∧ valIn (.tuple #[.int .i64 (IntKind.i64.wrap (a + b)), .bool (decide (-9223372036854775808 ≤ a + b ∧ a + b ≤ 9223372036854775807))]) = true := by
  refine fun_calls (cx := ⟨tys_XbB, []⟩) (sp := sP_plus) (t := sT_plus) (by kernel_rfl) tysok_XbB (fun _ h => (by cases h)) (keys_of (by kernel_rfl)) Try.func101 ⟨fun n => ([a, b] : List Int).getD n 0, fun n => ([false, false] : List Bool).getD n false⟩ sR_plus (by kernel_rfl) ?_ rfl (by intro p hp; cases hp) ?_ ?_
  · intro n k hk
    have hlt : n < 2 := by
      rcases Nat.lt_or_ge n 2 with h | h
      · exact h
      · rw [List.getElem?_eq_none h] at hk; cases hk
    rcases (show n = 0 ∨ n = 1 by omega) with rfl | rfl
    · cases hk; exact ha
    · cases hk; exact hb
  · intro ρ hag
    have g0 : ρ.i 0 = a := (hag 0 (by decide)).1.symm
    have g1 : ρ.i 1 = b := (hag 1 (by decide)).1.symm
    show some ([.int .i64 (ρ.i 0), .int .i64 (ρ.i 1)] : List Value) = _
    rw [g0, g1]
  · intro ρ hag
    have g0 : ρ.i 0 = a := (hag 0 (by decide)).1.symm
    have g1 : ρ.i 1 = b := (hag 1 (by decide)).1.symm
    simp only [sT_plus, Tr.asks, eqs, E.I, E.B, E.L, V.den, C.den, denL, den0, den0L, Option.map_some, Nat.add_zero, Nat.reduceAdd, and_true, g0, g1]
    all_goals
      refine congrArg some ?_
      (have ga := inK_i64 ha; have gb := inK_i64 hb; simp only [opI, ← not_lt_le, ← plus_fine ga.1 ga.2 gb.1 gb.2, Go.IntWalk.i64_left])
def sM_plus (key : Nat) : Sm := ⟨101, key, [(false, [.int .i64]), (false, [.int .i64])], [(false, [.int .i64]), (false, [.bool])], true⟩
def sI_plus : Nat → List Int → Int
  | 0, [x0, x1] => (fun (a : Int) (b : Int) => IntKind.i64.wrap (a + b)) x0 x1
  | _, _ => 0
def sB_plus : Nat → List Int → Bool
  | 1, [x0, x1] => (fun (a : Int) (b : Int) => decide (-9223372036854775808 ≤ a + b ∧ a + b ≤ 9223372036854775807)) x0 x1
  | _, _ => false
theorem sK_plus {sp : Spec} {key : Nat} (hI : sp.I key = sI_plus) (hB : sp.B key = sB_plus) : SmOk Try.prog sp (sM_plus key) := by
  refine SmOk.of (.inl ⟨run_enter Try.func101 (by kernel_rfl) (by kernel_rfl), fun xs vals h => ?_⟩) (.inl rfl)
  obtain ⟨_, _, _, d1, h1, rfl⟩ := shO h
  obtain ⟨x0, rfl, rfl, gx0⟩ := ckI d1
  obtain ⟨_, _, _, d2, h2, rfl⟩ := shO h1
  obtain ⟨x1, rfl, rfl, gx1⟩ := ckI d2
  obtain ⟨rfl, rfl⟩ := shN h2
  refine ⟨_, sX_plus x0 gx0 x1 gx1, fun ρ v0 he => ?_⟩
  have he' : ρ.i (v0 + 0) = sp.I key 0 [x0, x1] ∧ ρ.b (v0 + 1) = sp.B key 1 [x0, x1] ∧ True := he
  simp only [hI, hB] at he'
  obtain ⟨e0, e1, -⟩ := he'
  show some (.tuple #[.int .i64 (ρ.i (v0 + 0)), .bool (ρ.b (v0 + 1))] : Value) = _
  rw [e0, e1]
  rfl
def sT_minus : Tr :=
(.leaf (.tup [(false, [.int .i64 (.bin .sub .i64 (.var 0) (.var 1))]), (false, [.bool (.not (.lt (.bin .and .i64 (.bin .xor .i64 (.var 0) (.var 1)) (.bin .xor .i64 (.var 0) (.bin .sub .i64 (.var 0) (.var 1)))) (.lit 0)))])]))
def sP_minus : Spec := ⟨fun k => match k with | _ => fun _ _ => 0, fun k => match k with | _ => fun _ _ => false⟩
set_option maxRecDepth 100000 in
theorem sR_minus : funK ⟨tys_XbB, []⟩ 200 Try.f102 [.one (.int .i64 (.var 0)), .one (.int .i64 (.var 1))] ⟨[], [], [some .i64, some .i64]⟩ = sT_minus := by kernel_rfl
set_option maxRecDepth 100000 in
set_option maxHeartbeats 8000000 in
theorem sX_minus (a : Int) (ha : inK .i64 a = true) (b : Int) (hb : inK .i64 b = true) : (∀ w, Calls Try.prog 102 #[.int .i64 a, .int .i64 b] w fun e w' => e = .returned (.tuple #[.int .i64 (IntKind.i64.wrap (a - b)), .bool (decide (-9223372036854775808 ≤ a - b ∧ a - b ≤ 9223372036854775807))]) ∧ Ext w w') ∧ valIn (.tuple #[.int .i64 (IntKind.i64.wrap (a - b)), .bool (decide (-9223372036854775808 ≤ a - b ∧ a - b ≤ 9223372036854775807))]) = true := by
  refine fun_calls (cx := ⟨tys_XbB, []⟩) (sp := sP_minus) (t := sT_minus) (by kernel_rfl) tysok_XbB (fun _ h => (by cases h)) (keys_of (by kernel_rfl)) Try.func102 ⟨fun n => ([a, b] : List Int).getD n 0, fun n => ([false, false] : List Bool).getD n false⟩ sR_minus (by kernel_rfl) ?_ rfl (by intro p hp; cases hp) ?_ ?_
  · intro n k hk
    have hlt : n < 2 := by
      rcases Nat.lt_or_ge n 2 with h | h
      · exact h
      · rw [List.getElem?_eq_none h] at hk; cases hk
    rcases (show n = 0 ∨ n = 1 by omega) with rfl | rfl
    · cases hk; exact ha
    · cases hk; exact hb
  · intro ρ hag
    have g0 : ρ.i 0 = a := (hag 0 (by decide)).1.symm
    have g1 : ρ.i 1 = b := (hag 1 (by decide)).1.symm
    show some ([.int .i64 (ρ.i 0), .int .i64 (ρ.i 1)] : List Value) = _
    rw [g0, g1]
  · intro ρ hag
    have g0 : ρ.i 0 = a := (hag 0 (by decide)).1.symm
    have g1 : ρ.i 1 = b := (hag 1 (by decide)).1.symm
    simp only [sT_minus, Tr.asks, eqs, E.I, E.B, E.L, V.den, C.den, denL, den0, den0L, Option.map_some, Nat.add_zero, Nat.reduceAdd, and_true, g0, g1]
    all_goals
      refine congrArg some ?_
      (have ga := inK_i64 ha; have gb := inK_i64 hb; simp only [opI, ← not_lt_le, ← minus_fine ga.1 ga.2 gb.1 gb.2, Go.IntWalk.i64_left])
def sM_minus (key : Nat) : Sm := ⟨102, key, [(false, [.int .i64]), (false, [.int .i64])], [(false, [.int .i64]), (false, [.bool])], true⟩
def sI_minus : Nat → List Int → Int
  | 0, [x0, x1] => (fun (a : Int) (b : Int) => IntKind.i64.wrap (a - b)) x0 x1
  | _, _ => 0
def sB_minus : Nat → List Int → Bool
  | 1, [x0, x1] => (fun (a : Int) (b : Int) => decide (-9223372036854775808 ≤ a - b ∧ a - b ≤ 9223372036854775807)) x0 x1
  | _, _ => false
theorem sK_minus {sp : Spec} {key : Nat} (hI : sp.I key = sI_minus) (hB : sp.B key = sB_minus) : SmOk Try.prog sp (sM_minus key) := by
  refine SmOk.of (.inl ⟨run_enter Try.func102 (by kernel_rfl) (by kernel_rfl), fun xs vals h => ?_⟩) (.inl rfl)
  obtain ⟨_, _, _, d1, h1, rfl⟩ := shO h
  obtain ⟨x0, rfl, rfl, gx0⟩ := ckI d1
  obtain ⟨_, _, _, d2, h2, rfl⟩ := shO h1
  obtain ⟨x1, rfl, rfl, gx1⟩ := ckI d2
  obtain ⟨rfl, rfl⟩ := shN h2
  refine ⟨_, sX_minus x0 gx0 x1 gx1, fun ρ v0 he => ?_⟩
  have he' : ρ.i (v0 + 0) = sp.I key 0 [x0, x1] ∧ ρ.b (v0 + 1) = sp.B key 1 [x0, x1] ∧ True := he
  simp only [hI, hB] at he'
  obtain ⟨e0, e1, -⟩ := he'
  show some (.tuple #[.int .i64 (ρ.i (v0 + 0)), .bool (ρ.b (v0 + 1))] : Value) = _
  rw [e0, e1]
  rfl
def sT_nard : Tr :=
(.call 0 [.int .u64, .int .u64, .int .i64, .int .i64, .bool] (.cons (.var 0) (.cons (.var 1) (.cons (.var 2) (.cons (.var 3) .nil)))) 4
 (.leaf (.agg [.int .u64 (.var 4), .int .u64 (.var 5), .int .i64 (.var 6), .int .i64 (.var 7)])))
def sP_nard : Spec := ⟨fun k => match k with | 0 => sI_nar | _ => fun _ _ => 0, fun k => match k with | 0 => sB_nar | _ => fun _ _ => false⟩
set_option maxRecDepth 100000 in
theorem sR_nard : funK ⟨tys_XbB, [sM_nar 0]⟩ 200 Try.f73 [.agg [.int .u64 (.var 0), .int .u64 (.var 1), .int .i64 (.var 2), .int .i64 (.var 3)]] ⟨[], [], [some .u64, some .u64, some .i64, some .i64]⟩ = sT_nard := by kernel_rfl
set_option maxRecDepth 100000 in
set_option maxHeartbeats 8000000 in
theorem sX_nard (a : Rg) (ha : Rg.ok a) : (∀ w, Calls Try.prog 73 #[.agg #[.int .u64 a.ul, .int .u64 a.uh, .int .i64 a.sl, .int .i64 a.sh]] w fun e w' => e = .returned (.agg #[.int .u64 (bnar a).ul, .int .u64 (bnar a).uh, .int .i64 (bnar a).sl, .int .i64 (bnar a).sh]) ∧ Ext w w') ∧ valIn (.agg #[.int .u64 (bnar a).ul, .int .u64 (bnar a).uh, .int .i64 (bnar a).sl, .int .i64 (bnar a).sh]) = true := by
  refine fun_calls (cx := ⟨tys_XbB, [sM_nar 0]⟩) (sp := sP_nard) (t := sT_nard) (by kernel_rfl) tysok_XbB (List.forall_mem_cons.2 ⟨sK_nar rfl rfl, fun _ h => (by cases h)⟩) (keys_of (by kernel_rfl)) Try.func73 ⟨fun n => ([a.ul, a.uh, a.sl, a.sh] : List Int).getD n 0, fun n => ([false, false, false, false] : List Bool).getD n false⟩ sR_nard (by kernel_rfl) ?_ rfl (by intro p hp; cases hp) ?_ ?_
  · intro n k hk
    have hlt : n < 4 := by
      rcases Nat.lt_or_ge n 4 with h | h
      · exact h
      · rw [List.getElem?_eq_none h] at hk; cases hk
    rcases (show n = 0 ∨ n = 1 ∨ n = 2 ∨ n = 3 by omega) with rfl | rfl | rfl | rfl
    · cases hk; exact ha.1
    · cases hk; exact ha.2.1
    · cases hk; exact ha.2.2.1
    · cases hk; exact ha.2.2.2
  · intro ρ hag
    have g0 : ρ.i 0 = a.ul := (hag 0 (by decide)).1.symm
    have g1 : ρ.i 1 = a.uh := (hag 1 (by decide)).1.symm
    have g2 : ρ.i 2 = a.sl := (hag 2 (by decide)).1.symm
    have g3 : ρ.i 3 = a.sh := (hag 3 (by decide)).1.symm
    show some ([.agg #[.int .u64 (ρ.i 0), .int .u64 (ρ.i 1), .int .i64 (ρ.i 2), .int .i64 (ρ.i 3)]] : List Value) = _
    rw [g0, g1, g2, g3]
  · intro ρ hag
    have g0 : ρ.i 0 = a.ul := (hag 0 (by decide)).1.symm
    have g1 : ρ.i 1 = a.uh := (hag 1 (by decide)).1.symm
    have g2 : ρ.i 2 = a.sl := (hag 2 (by decide)).1.symm
    have g3 : ρ.i 3 = a.sh := (hag 3 (by decide)).1.symm
    simp only [sT_nard, Tr.asks, eqs, E.I, E.B, E.L, V.den, C.den, denL, den0, den0L, Option.map_some, Nat.add_zero, Nat.reduceAdd, and_true, Rg.eta, g0, g1, g2, g3]
    simp only [sP_nard, b01, Pi.eta, Pu.eta, Rg.eta, sI_nar, sB_nar]
    rintro ⟨e4, e5, e6, e7, e8⟩
    (try simp only [e4, e5, e6, e7, e8, Pi.eta, Pu.eta, Rg.eta])
    (try clear e4 e5 e6 e7 e8)
    all_goals
      refine congrArg some ?_
      rfl
def sM_nard (key : Nat) : Sm := ⟨73, key, [(true, [.int .u64, .int .u64, .int .i64, .int .i64])], [(true, [.int .u64, .int .u64, .int .i64, .int .i64])], false⟩
def sI_nard : Nat → List Int → Int
  | 0, [x0, x1, x2, x3] => (fun (a : Rg) => (bnar a).ul) ⟨x0, x1, x2, x3⟩
  | 1, [x0, x1, x2, x3] => (fun (a : Rg) => (bnar a).uh) ⟨x0, x1, x2, x3⟩
  | 2, [x0, x1, x2, x3] => (fun (a : Rg) => (bnar a).sl) ⟨x0, x1, x2, x3⟩
  | 3, [x0, x1, x2, x3] => (fun (a : Rg) => (bnar a).sh) ⟨x0, x1, x2, x3⟩
  | _, _ => 0
def sB_nard : Nat → List Int → Bool
  | _, _ => false
theorem sK_nard {sp : Spec} {key : Nat} (hI : sp.I key = sI_nard) (hB : sp.B key = sB_nard) : SmOk Try.prog sp (sM_nard key) := by
  refine SmOk.of (.inl ⟨run_enter Try.func73 (by kernel_rfl) (by kernel_rfl), fun xs vals h => ?_⟩) (.inr (.inl ⟨_, rfl⟩))
  obtain ⟨_, _, _, p1, h1, rfl⟩ := shA h
  obtain ⟨_, _, _, d1_0, p1_0, rfl⟩ := cksC p1
  obtain ⟨x0, rfl, rfl, gx0⟩ := ckI d1_0
  obtain ⟨_, _, _, d1_1, p1_1, rfl⟩ := cksC p1_0
  obtain ⟨x1, rfl, rfl, gx1⟩ := ckI d1_1
  obtain ⟨_, _, _, d1_2, p1_2, rfl⟩ := cksC p1_1
  obtain ⟨x2, rfl, rfl, gx2⟩ := ckI d1_2
  obtain ⟨_, _, _, d1_3, p1_3, rfl⟩ := cksC p1_2
  obtain ⟨x3, rfl, rfl, gx3⟩ := ckI d1_3
  obtain ⟨rfl, rfl⟩ := cksN p1_3
  obtain ⟨rfl, rfl⟩ := shN h1
  refine ⟨_, sX_nard ⟨x0, x1, x2, x3⟩ ⟨gx0, gx1, gx2, gx3⟩, fun ρ v0 he => ?_⟩
  have he' : ρ.i (v0 + 0) = sp.I key 0 [x0, x1, x2, x3] ∧ ρ.i (v0 + 1) = sp.I key 1 [x0, x1, x2, x3] ∧ ρ.i (v0 + 2) = sp.I key 2 [x0, x1, x2, x3] ∧ ρ.i (v0 + 3) = sp.I key 3 [x0, x1, x2, x3] ∧ True := he
  simp only [hI, hB] at he'
  obtain ⟨e0, e1, e2, e3, -⟩ := he'
  show some (.agg #[.int .u64 (ρ.i (v0 + 0)), .int .u64 (ρ.i (v0 + 1)), .int .i64 (ρ.i (v0 + 2)), .int .i64 (ρ.i (v0 + 3))] : Value) = _
  rw [e0, e1, e2, e3]
  rfl
def sT_meet : Tr :=
(.call 0 [.bool] (.cons (.var 0) (.cons (.var 1) (.cons (.var 2) (.cons (.var 3) .nil)))) 8
 (.br (.bvar 8)
 (.call 0 [.bool] (.cons (.var 4) (.cons (.var 5) (.cons (.var 6) (.cons (.var 7) .nil)))) 9
  (.br (.bvar 9)
  (.call 2 [.int .u64, .int .u64] (.cons (.var 0) (.cons (.var 1) (.cons (.var 2) (.cons (.var 3) .nil)))) 10
   (.call 2 [.int .u64, .int .u64] (.cons (.var 4) (.cons (.var 5) (.cons (.var 6) (.cons (.var 7) .nil)))) 12
   (.call 4 [.int .u64, .int .u64] (.cons (.var 10) (.cons (.var 11) (.cons (.var 12) (.cons (.var 13) .nil)))) 14
   (.call 3 [.int .i64, .int .i64] (.cons (.var 0) (.cons (.var 1) (.cons (.var 2) (.cons (.var 3) .nil)))) 16
   (.call 3 [.int .i64, .int .i64] (.cons (.var 4) (.cons (.var 5) (.cons (.var 6) (.cons (.var 7) .nil)))) 18
   (.call 5 [.int .i64, .int .i64] (.cons (.var 16) (.cons (.var 17) (.cons (.var 18) (.cons (.var 19) .nil)))) 20
   (.call 6 [.int .u64, .int .u64, .int .i64, .int .i64] (.cons (.var 14) (.cons (.var 15) (.cons (.var 20) (.cons (.var 21) .nil)))) 22
   (.call 7 [.int .u64, .int .u64, .int .i64, .int .i64, .bool] (.cons (.var 22) (.cons (.var 23) (.cons (.var 24) (.cons (.var 25) .nil)))) 26
   (.leaf (.tup [(true, [.int .u64 (.var 26), .int .u64 (.var 27), .int .i64 (.var 28), .int .i64 (.var 29)]), (false, [.bool (.bvar 30)])]))))))))))
  (.call 1 [.int .u64, .int .u64, .int .i64, .int .i64] .nil 10
   (.leaf (.tup [(true, [.int .u64 (.var 10), .int .u64 (.var 11), .int .i64 (.var 12), .int .i64 (.var 13)]), (false, [.bool (.tt false)])])))))
 (.call 1 [.int .u64, .int .u64, .int .i64, .int .i64] .nil 9
  (.leaf (.tup [(true, [.int .u64 (.var 9), .int .u64 (.var 10), .int .i64 (.var 11), .int .i64 (.var 12)]), (false, [.bool (.tt false)])])))))
def sP_meet : Spec := ⟨fun k => match k with | 0 => sI_may | 1 => sI_all | 2 => sI_uns | 3 => sI_sig | 4 => sI_umeet | 5 => sI_imeet | 6 => sI_of | 7 => sI_nar | _ => fun _ _ => 0, fun k => match k with | 0 => sB_may | 1 => sB_all | 2 => sB_uns | 3 => sB_sig | 4 => sB_umeet | 5 => sB_imeet | 6 => sB_of | 7 => sB_nar | _ => fun _ _ => false⟩
set_option maxRecDepth 100000 in
theorem sR_meet : funK ⟨tys_XbB, [sM_may 0, sM_all 1, sM_uns 2, sM_sig 3, sM_umeet 4, sM_imeet 5, sM_of 6, sM_nar 7]⟩ 200 Try.f17 [.agg [.int .u64 (.var 0), .int .u64 (.var 1), .int .i64 (.var 2), .int .i64 (.var 3)], .agg [.int .u64 (.var 4), .int .u64 (.var 5), .int .i64 (.var 6), .int .i64 (.var 7)]] ⟨[], [], [some .u64, some .u64, some .i64, some .i64, some .u64, some .u64, some .i64, some .i64]⟩ = sT_meet := by kernel_rfl
set_option maxRecDepth 100000 in
set_option maxHeartbeats 8000000 in
theorem sX_meet (a : Rg) (ha : Rg.ok a) (b : Rg) (hb : Rg.ok b) : (∀ w, Calls Try.prog 17 #[.agg #[.int .u64 a.ul, .int .u64 a.uh, .int .i64 a.sl, .int .i64 a.sh], .agg #[.int .u64 b.ul, .int .u64 b.uh, .int .i64 b.sl, .int .i64 b.sh]] w fun e w' => e = .returned (.tuple #[.agg #[.int .u64 (bmeet a b).ul, .int .u64 (bmeet a b).uh, .int .i64 (bmeet a b).sl, .int .i64 (bmeet a b).sh], .bool (bmeets a b)]) ∧ Ext w w') ∧ valIn (.tuple #[.agg #[.int .u64 (bmeet a b).ul, .int .u64 (bmeet a b).uh, .int .i64 (bmeet a b).sl, .int .i64 (bmeet a b).sh], .bool (bmeets a b)]) = true := by
  refine fun_calls (cx := ⟨tys_XbB, [sM_may 0, sM_all 1, sM_uns 2, sM_sig 3, sM_umeet 4, sM_imeet 5, sM_of 6, sM_nar 7]⟩) (sp := sP_meet) (t := sT_meet) (by kernel_rfl) tysok_XbB (List.forall_mem_cons.2 ⟨sK_may rfl rfl, List.forall_mem_cons.2 ⟨sK_all rfl rfl, List.forall_mem_cons.2 ⟨sK_uns rfl rfl, List.forall_mem_cons.2 ⟨sK_sig rfl rfl, List.forall_mem_cons.2 ⟨sK_umeet rfl rfl, List.forall_mem_cons.2 ⟨sK_imeet rfl rfl, List.forall_mem_cons.2 ⟨sK_of rfl rfl, List.forall_mem_cons.2 ⟨sK_nar rfl rfl, fun _ h => (by cases h)⟩⟩⟩⟩⟩⟩⟩⟩) (keys_of (by kernel_rfl)) Try.func17 ⟨fun n => ([a.ul, a.uh, a.sl, a.sh, b.ul, b.uh, b.sl, b.sh] : List Int).getD n 0, fun n => ([false, false, false, false, false, false, false, false] : List Bool).getD n false⟩ sR_meet (by kernel_rfl) ?_ rfl (by intro p hp; cases hp) ?_ ?_
  · intro n k hk
    have hlt : n < 8 := by
      rcases Nat.lt_or_ge n 8 with h | h
      · exact h
      · rw [List.getElem?_eq_none h] at hk; cases hk
    rcases (show n = 0 ∨ n = 1 ∨ n = 2 ∨ n = 3 ∨ n = 4 ∨ n = 5 ∨ n = 6 ∨ n = 7 by omega) with rfl | rfl | rfl | rfl | rfl | rfl | rfl | rfl
    · cases hk; exact ha.1
    · cases hk; exact ha.2.1
    · cases hk; exact ha.2.2.1
    · cases hk; exact ha.2.2.2
    · cases hk; exact hb.1
    · cases hk; exact hb.2.1
    · cases hk; exact hb.2.2.1
    · cases hk; exact hb.2.2.2
  · intro ρ hag
    have g0 : ρ.i 0 = a.ul := (hag 0 (by decide)).1.symm
    have g1 : ρ.i 1 = a.uh := (hag 1 (by decide)).1.symm
    have g2 : ρ.i 2 = a.sl := (hag 2 (by decide)).1.symm
    have g3 : ρ.i 3 = a.sh := (hag 3 (by decide)).1.symm
    have g4 : ρ.i 4 = b.ul := (hag 4 (by decide)).1.symm
    have g5 : ρ.i 5 = b.uh := (hag 5 (by decide)).1.symm
    have g6 : ρ.i 6 = b.sl := (hag 6 (by decide)).1.symm
    have g7 : ρ.i 7 = b.sh := (hag 7 (by decide)).1.symm
    show some ([.agg #[.int .u64 (ρ.i 0), .int .u64 (ρ.i 1), .int .i64 (ρ.i 2), .int .i64 (ρ.i 3)], .agg #[.int .u64 (ρ.i 4), .int .u64 (ρ.i 5), .int .i64 (ρ.i 6), .int .i64 (ρ.i 7)]] : List Value) = _
    rw [g0, g1, g2, g3, g4, g5, g6, g7]
  · intro ρ hag
    have g0 : ρ.i 0 = a.ul := (hag 0 (by decide)).1.symm
    have g1 : ρ.i 1 = a.uh := (hag 1 (by decide)).1.symm
    have g2 : ρ.i 2 = a.sl := (hag 2 (by decide)).1.symm
    have g3 : ρ.i 3 = a.sh := (hag 3 (by decide)).1.symm
    have g4 : ρ.i 4 = b.ul := (hag 4 (by decide)).1.symm
    have g5 : ρ.i 5 = b.uh := (hag 5 (by decide)).1.symm
    have g6 : ρ.i 6 = b.sl := (hag 6 (by decide)).1.symm
    have g7 : ρ.i 7 = b.sh := (hag 7 (by decide)).1.symm
    simp only [sT_meet, Tr.asks, eqs, E.I, E.B, E.L, V.den, C.den, denL, den0, den0L, Option.map_some, Nat.add_zero, Nat.reduceAdd, and_true, Rg.eta, g0, g1, g2, g3, g4, g5, g6, g7]
    simp only [sP_meet, b01, Pi.eta, Pu.eta, Rg.eta, sI_may, sB_may, sI_all, sB_all, sI_uns, sB_uns, sI_sig, sB_sig, sI_umeet, sB_umeet, sI_imeet, sB_imeet, sI_of, sB_of, sI_nar, sB_nar]
    intro e8
    (try simp only [e8, Pi.eta, Pu.eta, Rg.eta])
    (try clear e8)
    refine ⟨fun c0 => ?_, fun c0 => ?_⟩
    · skip
      intro e9
      (try simp only [e9, Pi.eta, Pu.eta, Rg.eta])
      (try clear e9)
      refine ⟨fun c1 => ?_, fun c1 => ?_⟩
      · skip
        rintro ⟨e10, e11⟩
        (try simp only [e10, e11, Pi.eta, Pu.eta, Rg.eta])
        (try clear e10 e11)
        rintro ⟨e12, e13⟩
        (try simp only [e12, e13, Pi.eta, Pu.eta, Rg.eta])
        (try clear e12 e13)
        rintro ⟨e14, e15⟩
        (try simp only [e14, e15, Pi.eta, Pu.eta, Rg.eta])
        (try clear e14 e15)
        rintro ⟨e16, e17⟩
        (try simp only [e16, e17, Pi.eta, Pu.eta, Rg.eta])
        (try clear e16 e17)
        rintro ⟨e18, e19⟩
        (try simp only [e18, e19, Pi.eta, Pu.eta, Rg.eta])
        (try clear e18 e19)
        rintro ⟨e20, e21⟩
        (try simp only [e20, e21, Pi.eta, Pu.eta, Rg.eta])
        (try clear e20 e21)
        rintro ⟨e22, e23, e24, e25⟩
        (try simp only [e22, e23, e24, e25, Pi.eta, Pu.eta, Rg.eta])
        (try clear e22 e23 e24 e25)
        rintro ⟨e26, e27, e28, e29, e30⟩
        (try simp only [e26, e27, e28, e29, e30, Pi.eta, Pu.eta, Rg.eta])
        (try clear e26 e27 e28 e29 e30)
        all_goals
          refine congrArg some ?_
          (unfold bmeet bmeets; simp_all [bmeet0, bnar_if])
      · skip
        rintro ⟨e10, e11, e12, e13⟩
        (try simp only [e10, e11, e12, e13, Pi.eta, Pu.eta, Rg.eta])
        (try clear e10 e11 e12 e13)
        all_goals
          refine congrArg some ?_
          (unfold bmeet bmeets; simp_all [bmeet0, bnar_if])
    · skip
      rintro ⟨e9, e10, e11, e12⟩
      (try simp only [e9, e10, e11, e12, Pi.eta, Pu.eta, Rg.eta])
      (try clear e9 e10 e11 e12)
      all_goals
        refine congrArg some ?_
        (unfold bmeet bmeets; simp_all [bmeet0, bnar_if])
def sM_meet (key : Nat) : Sm := ⟨17, key, [(true, [.int .u64, .int .u64, .int .i64, .int .i64]), (true, [.int .u64, .int .u64, .int .i64, .int .i64])], [(true, [.int .u64, .int .u64, .int .i64, .int .i64]), (false, [.bool])], true⟩
def sI_meet : Nat → List Int → Int
  | 0, [x0, x1, x2, x3, x4, x5, x6, x7] => (fun (a : Rg) (b : Rg) => (bmeet a b).ul) ⟨x0, x1, x2, x3⟩ ⟨x4, x5, x6, x7⟩
  | 1, [x0, x1, x2, x3, x4, x5, x6, x7] => (fun (a : Rg) (b : Rg) => (bmeet a b).uh) ⟨x0, x1, x2, x3⟩ ⟨x4, x5, x6, x7⟩
  | 2, [x0, x1, x2, x3, x4, x5, x6, x7] => (fun (a : Rg) (b : Rg) => (bmeet a b).sl) ⟨x0, x1, x2, x3⟩ ⟨x4, x5, x6, x7⟩
  | 3, [x0, x1, x2, x3, x4, x5, x6, x7] => (fun (a : Rg) (b : Rg) => (bmeet a b).sh) ⟨x0, x1, x2, x3⟩ ⟨x4, x5, x6, x7⟩
  | _, _ => 0
def sB_meet : Nat → List Int → Bool
  | 4, [x0, x1, x2, x3, x4, x5, x6, x7] => (fun (a : Rg) (b : Rg) => bmeets a b) ⟨x0, x1, x2, x3⟩ ⟨x4, x5, x6, x7⟩
  | _, _ => false
theorem sK_meet {sp : Spec} {key : Nat} (hI : sp.I key = sI_meet) (hB : sp.B key = sB_meet) : SmOk Try.prog sp (sM_meet key) := by
  refine SmOk.of (.inl ⟨run_enter Try.func17 (by kernel_rfl) (by kernel_rfl), fun xs vals h => ?_⟩) (.inl rfl)
  obtain ⟨_, _, _, p1, h1, rfl⟩ := shA h
  obtain ⟨_, _, _, d1_0, p1_0, rfl⟩ := cksC p1
  obtain ⟨x0, rfl, rfl, gx0⟩ := ckI d1_0
  obtain ⟨_, _, _, d1_1, p1_1, rfl⟩ := cksC p1_0
  obtain ⟨x1, rfl, rfl, gx1⟩ := ckI d1_1
  obtain ⟨_, _, _, d1_2, p1_2, rfl⟩ := cksC p1_1
  obtain ⟨x2, rfl, rfl, gx2⟩ := ckI d1_2
  obtain ⟨_, _, _, d1_3, p1_3, rfl⟩ := cksC p1_2
  obtain ⟨x3, rfl, rfl, gx3⟩ := ckI d1_3
  obtain ⟨rfl, rfl⟩ := cksN p1_3
  obtain ⟨_, _, _, p2, h2, rfl⟩ := shA h1
  obtain ⟨_, _, _, d2_0, p2_0, rfl⟩ := cksC p2
  obtain ⟨x4, rfl, rfl, gx4⟩ := ckI d2_0
  obtain ⟨_, _, _, d2_1, p2_1, rfl⟩ := cksC p2_0
  obtain ⟨x5, rfl, rfl, gx5⟩ := ckI d2_1
  obtain ⟨_, _, _, d2_2, p2_2, rfl⟩ := cksC p2_1
  obtain ⟨x6, rfl, rfl, gx6⟩ := ckI d2_2
  obtain ⟨_, _, _, d2_3, p2_3, rfl⟩ := cksC p2_2
  obtain ⟨x7, rfl, rfl, gx7⟩ := ckI d2_3
  obtain ⟨rfl, rfl⟩ := cksN p2_3
  obtain ⟨rfl, rfl⟩ := shN h2
  refine ⟨_, sX_meet ⟨x0, x1, x2, x3⟩ ⟨gx0, gx1, gx2, gx3⟩ ⟨x4, x5, x6, x7⟩ ⟨gx4, gx5, gx6, gx7⟩, fun ρ v0 he => ?_⟩
  have he' : ρ.i (v0 + 0) = sp.I key 0 [x0, x1, x2, x3, x4, x5, x6, x7] ∧ ρ.i (v0 + 1) = sp.I key 1 [x0, x1, x2, x3, x4, x5, x6, x7] ∧ ρ.i (v0 + 2) = sp.I key 2 [x0, x1, x2, x3, x4, x5, x6, x7] ∧ ρ.i (v0 + 3) = sp.I key 3 [x0, x1, x2, x3, x4, x5, x6, x7] ∧ ρ.b (v0 + 4) = sp.B key 4 [x0, x1, x2, x3, x4, x5, x6, x7] ∧ True := he
  simp only [hI, hB] at he'
  obtain ⟨e0, e1, e2, e3, e4, -⟩ := he'
  show some (.tuple #[.agg #[.int .u64 (ρ.i (v0 + 0)), .int .u64 (ρ.i (v0 + 1)), .int .i64 (ρ.i (v0 + 2)), .int .i64 (ρ.i (v0 + 3))], .bool (ρ.b (v0 + 4))] : Value) = _
  rw [e0, e1, e2, e3, e4]
  rfl
def sT_in : Tr :=
(.call 0 [.bool] (.cons (.var 0) (.cons (.var 1) (.cons (.var 2) (.cons (.var 3) .nil)))) 8
 (.br (.bvar 8)
 (.call 0 [.bool] (.cons (.var 4) (.cons (.var 5) (.cons (.var 6) (.cons (.var 7) .nil)))) 9
  (.br (.bvar 9)
  (.call 1 [.int .u64, .int .u64, .int .i64, .int .i64] (.cons (.var 0) (.cons (.var 1) (.cons (.var 2) (.cons (.var 3) (.cons (.var 4) (.cons (.var 5) (.cons (.var 6) (.cons (.var 7) .nil)))))))) 10
   (.leaf (.one (.bool (.and (.eq (.var 10) (.var 4)) (.and (.eq (.var 11) (.var 5)) (.and (.eq (.var 12) (.var 6)) (.and (.eq (.var 13) (.var 7)) (.tt true)))))))))
  (.leaf (.one (.bool (.tt false))))))
 (.leaf (.one (.bool (.tt false))))))
def sP_in : Spec := ⟨fun k => match k with | 0 => sI_may | 1 => sI_join | _ => fun _ _ => 0, fun k => match k with | 0 => sB_may | 1 => sB_join | _ => fun _ _ => false⟩
set_option maxRecDepth 100000 in
theorem sR_in : funK ⟨tys_XbB, [sM_may 0, sM_join 1]⟩ 200 Try.f30 [.agg [.int .u64 (.var 0), .int .u64 (.var 1), .int .i64 (.var 2), .int .i64 (.var 3)], .agg [.int .u64 (.var 4), .int .u64 (.var 5), .int .i64 (.var 6), .int .i64 (.var 7)]] ⟨[], [], [some .u64, some .u64, some .i64, some .i64, some .u64, some .u64, some .i64, some .i64]⟩ = sT_in := by kernel_rfl
set_option maxRecDepth 100000 in
set_option maxHeartbeats 8000000 in
theorem sX_in (a : Rg) (ha : Rg.ok a) (b : Rg) (hb : Rg.ok b) : (∀ w, Calls Try.prog 30 #[.agg #[.int .u64 a.ul, .int .u64 a.uh, .int .i64 a.sl, .int .i64 a.sh], .agg #[.int .u64 b.ul, .int .u64 b.uh, .int .i64 b.sl, .int .i64 b.sh]] w fun e w' => e = .returned (.bool (bin a b)) ∧ Ext w w') ∧ valIn (.bool (bin a b)) = true := by
  refine fun_calls (cx := ⟨tys_XbB, [sM_may 0, sM_join 1]⟩) (sp := sP_in) (t := sT_in) (by kernel_rfl) tysok_XbB (List.forall_mem_cons.2 ⟨sK_may rfl rfl, List.forall_mem_cons.2 ⟨sK_join rfl rfl, fun _ h => (by cases h)⟩⟩) (keys_of (by kernel_rfl)) Try.func30 ⟨fun n => ([a.ul, a.uh, a.sl, a.sh, b.ul, b.uh, b.sl, b.sh] : List Int).getD n 0, fun n => ([false, false, false, false, false, false, false, false] : List Bool).getD n false⟩ sR_in (by kernel_rfl) ?_ rfl (by intro p hp; cases hp) ?_ ?_
  · intro n k hk
    have hlt : n < 8 := by
      rcases Nat.lt_or_ge n 8 with h | h
      · exact h
      · rw [List.getElem?_eq_none h] at hk; cases hk
    rcases (show n = 0 ∨ n = 1 ∨ n = 2 ∨ n = 3 ∨ n = 4 ∨ n = 5 ∨ n = 6 ∨ n = 7 by omega) with rfl | rfl | rfl | rfl | rfl | rfl | rfl | rfl
    · cases hk; exact ha.1
    · cases hk; exact ha.2.1
    · cases hk; exact ha.2.2.1
    · cases hk; exact ha.2.2.2
    · cases hk; exact hb.1
    · cases hk; exact hb.2.1
    · cases hk; exact hb.2.2.1
    · cases hk; exact hb.2.2.2
  · intro ρ hag
    have g0 : ρ.i 0 = a.ul := (hag 0 (by decide)).1.symm
    have g1 : ρ.i 1 = a.uh := (hag 1 (by decide)).1.symm
    have g2 : ρ.i 2 = a.sl := (hag 2 (by decide)).1.symm
    have g3 : ρ.i 3 = a.sh := (hag 3 (by decide)).1.symm
    have g4 : ρ.i 4 = b.ul := (hag 4 (by decide)).1.symm
    have g5 : ρ.i 5 = b.uh := (hag 5 (by decide)).1.symm
    have g6 : ρ.i 6 = b.sl := (hag 6 (by decide)).1.symm
    have g7 : ρ.i 7 = b.sh := (hag 7 (by decide)).1.symm
    show some ([.agg #[.int .u64 (ρ.i 0), .int .u64 (ρ.i 1), .int .i64 (ρ.i 2), .int .i64 (ρ.i 3)], .agg #[.int .u64 (ρ.i 4), .int .u64 (ρ.i 5), .int .i64 (ρ.i 6), .int .i64 (ρ.i 7)]] : List Value) = _
    rw [g0, g1, g2, g3, g4, g5, g6, g7]
  · intro ρ hag
    have g0 : ρ.i 0 = a.ul := (hag 0 (by decide)).1.symm
    have g1 : ρ.i 1 = a.uh := (hag 1 (by decide)).1.symm
    have g2 : ρ.i 2 = a.sl := (hag 2 (by decide)).1.symm
    have g3 : ρ.i 3 = a.sh := (hag 3 (by decide)).1.symm
    have g4 : ρ.i 4 = b.ul := (hag 4 (by decide)).1.symm
    have g5 : ρ.i 5 = b.uh := (hag 5 (by decide)).1.symm
    have g6 : ρ.i 6 = b.sl := (hag 6 (by decide)).1.symm
    have g7 : ρ.i 7 = b.sh := (hag 7 (by decide)).1.symm
    simp only [sT_in, Tr.asks, eqs, E.I, E.B, E.L, V.den, C.den, denL, den0, den0L, Option.map_some, Nat.add_zero, Nat.reduceAdd, and_true, Rg.eta, g0, g1, g2, g3, g4, g5, g6, g7]
    simp only [sP_in, b01, Pi.eta, Pu.eta, Rg.eta, sI_may, sB_may, sI_join, sB_join]
    intro e8
    (try simp only [e8, Pi.eta, Pu.eta, Rg.eta])
    (try clear e8)
    refine ⟨fun c0 => ?_, fun c0 => ?_⟩
    · skip
      intro e9
      (try simp only [e9, Pi.eta, Pu.eta, Rg.eta])
      (try clear e9)
      refine ⟨fun c1 => ?_, fun c1 => ?_⟩
      · skip
        rintro ⟨e10, e11, e12, e13⟩
        (try simp only [e10, e11, e12, e13, Pi.eta, Pu.eta, Rg.eta])
        (try clear e10 e11 e12 e13)
        all_goals
          refine congrArg some ?_
          (unfold bin; simp_all [Rg.ext_iff]; try (rw [Bool.eq_iff_iff]; simp))
      · skip
        all_goals
          refine congrArg some ?_
          (unfold bin; simp_all [Rg.ext_iff]; try (rw [Bool.eq_iff_iff]; simp))
    · skip
      all_goals
        refine congrArg some ?_
        (unfold bin; simp_all [Rg.ext_iff]; try (rw [Bool.eq_iff_iff]; simp))
def sM_in (key : Nat) : Sm := ⟨30, key, [(true, [.int .u64, .int .u64, .int .i64, .int .i64]), (true, [.int .u64, .int .u64, .int .i64, .int .i64])], [(false, [.bool])], false⟩
def sI_in : Nat → List Int → Int
  | _, _ => 0
def sB_in : Nat → List Int → Bool
  | 0, [x0, x1, x2, x3, x4, x5, x6, x7] => (fun (a : Rg) (b : Rg) => bin a b) ⟨x0, x1, x2, x3⟩ ⟨x4, x5, x6, x7⟩
  | _, _ => false
theorem sK_in {sp : Spec} {key : Nat} (hI : sp.I key = sI_in) (hB : sp.B key = sB_in) : SmOk Try.prog sp (sM_in key) := by
  refine SmOk.of (.inl ⟨run_enter Try.func30 (by kernel_rfl) (by kernel_rfl), fun xs vals h => ?_⟩) (.inr (.inr ⟨_, rfl⟩))
  obtain ⟨_, _, _, p1, h1, rfl⟩ := shA h
  obtain ⟨_, _, _, d1_0, p1_0, rfl⟩ := cksC p1
  obtain ⟨x0, rfl, rfl, gx0⟩ := ckI d1_0
  obtain ⟨_, _, _, d1_1, p1_1, rfl⟩ := cksC p1_0
  obtain ⟨x1, rfl, rfl, gx1⟩ := ckI d1_1
  obtain ⟨_, _, _, d1_2, p1_2, rfl⟩ := cksC p1_1
  obtain ⟨x2, rfl, rfl, gx2⟩ := ckI d1_2
  obtain ⟨_, _, _, d1_3, p1_3, rfl⟩ := cksC p1_2
  obtain ⟨x3, rfl, rfl, gx3⟩ := ckI d1_3
  obtain ⟨rfl, rfl⟩ := cksN p1_3
  obtain ⟨_, _, _, p2, h2, rfl⟩ := shA h1
  obtain ⟨_, _, _, d2_0, p2_0, rfl⟩ := cksC p2
  obtain ⟨x4, rfl, rfl, gx4⟩ := ckI d2_0
  obtain ⟨_, _, _, d2_1, p2_1, rfl⟩ := cksC p2_0
  obtain ⟨x5, rfl, rfl, gx5⟩ := ckI d2_1
  obtain ⟨_, _, _, d2_2, p2_2, rfl⟩ := cksC p2_1
  obtain ⟨x6, rfl, rfl, gx6⟩ := ckI d2_2
  obtain ⟨_, _, _, d2_3, p2_3, rfl⟩ := cksC p2_2
  obtain ⟨x7, rfl, rfl, gx7⟩ := ckI d2_3
  obtain ⟨rfl, rfl⟩ := cksN p2_3
  obtain ⟨rfl, rfl⟩ := shN h2
  refine ⟨_, sX_in ⟨x0, x1, x2, x3⟩ ⟨gx0, gx1, gx2, gx3⟩ ⟨x4, x5, x6, x7⟩ ⟨gx4, gx5, gx6, gx7⟩, fun ρ v0 he => ?_⟩
  have he' : ρ.b (v0 + 0) = sp.B key 0 [x0, x1, x2, x3, x4, x5, x6, x7] ∧ True := he
  simp only [hI, hB] at he'
  obtain ⟨e0, -⟩ := he'
  show some (.bool (ρ.b (v0 + 0)) : Value) = _
  rw [e0]
  rfl
def sT_low : Tr :=
(.call 0 [.bool] (.cons (.var 0) (.cons (.var 1) (.cons (.var 2) (.cons (.var 3) .nil)))) 4
 (.br (.bvar 4)
 (.br (.lt (.lit 4294967295) (.var 1))
  (.call 1 [.int .u64, .int .u64, .int .i64, .int .i64] .nil 5
   (.call 2 [.int .u64, .int .u64, .int .i64, .int .i64] (.cons (.var 5) (.cons (.lit 4294967295) (.cons (.var 7) (.cons (.var 8) .nil)))) 9
   (.leaf (.agg [.int .u64 (.var 9), .int .u64 (.var 10), .int .i64 (.var 11), .int .i64 (.var 12)]))))
  (.leaf (.agg [.int .u64 (.var 0), .int .u64 (.var 1), .int .i64 (.var 2), .int .i64 (.var 3)])))
 (.call 1 [.int .u64, .int .u64, .int .i64, .int .i64] .nil 5
  (.call 2 [.int .u64, .int .u64, .int .i64, .int .i64] (.cons (.var 5) (.cons (.lit 4294967295) (.cons (.var 7) (.cons (.var 8) .nil)))) 9
  (.leaf (.agg [.int .u64 (.var 9), .int .u64 (.var 10), .int .i64 (.var 11), .int .i64 (.var 12)]))))))
def sP_low : Spec := ⟨fun k => match k with | 0 => sI_may | 1 => sI_all | 2 => sI_nard | _ => fun _ _ => 0, fun k => match k with | 0 => sB_may | 1 => sB_all | 2 => sB_nard | _ => fun _ _ => false⟩
set_option maxRecDepth 100000 in
theorem sR_low : funK ⟨tys_XbB, [sM_may 0, sM_all 1, sM_nard 2]⟩ 200 Try.f34 [.agg [.int .u64 (.var 0), .int .u64 (.var 1), .int .i64 (.var 2), .int .i64 (.var 3)]] ⟨[], [], [some .u64, some .u64, some .i64, some .i64]⟩ = sT_low := by kernel_rfl
set_option maxRecDepth 100000 in
set_option maxHeartbeats 8000000 in
theorem sX_low (a : Rg) (ha : Rg.ok a) : (∀ w, Calls Try.prog 34 #[.agg #[.int .u64 a.ul, .int .u64 a.uh, .int .i64 a.sl, .int .i64 a.sh]] w fun e w' => e = .returned (.agg #[.int .u64 (blow a).ul, .int .u64 (blow a).uh, .int .i64 (blow a).sl, .int .i64 (blow a).sh]) ∧ Ext w w') ∧ valIn (.agg #[.int .u64 (blow a).ul, .int .u64 (blow a).uh, .int .i64 (blow a).sl, .int .i64 (blow a).sh]) = true := by
  refine fun_calls (cx := ⟨tys_XbB, [sM_may 0, sM_all 1, sM_nard 2]⟩) (sp := sP_low) (t := sT_low) (by kernel_rfl) tysok_XbB (List.forall_mem_cons.2 ⟨sK_may rfl rfl, List.forall_mem_cons.2 ⟨sK_all rfl rfl, List.forall_mem_cons.2 ⟨sK_nard rfl rfl, fun _ h => (by cases h)⟩⟩⟩) (keys_of (by kernel_rfl)) Try.func34 ⟨fun n => ([a.ul, a.uh, a.sl, a.sh] : List Int).getD n 0, fun n => ([false, false, false, false] : List Bool).getD n false⟩ sR_low (by kernel_rfl) ?_ rfl (by intro p hp; cases hp) ?_ ?_
  · intro n k hk
    have hlt : n < 4 := by
      rcases Nat.lt_or_ge n 4 with h | h
      · exact h
      · rw [List.getElem?_eq_none h] at hk; cases hk
    rcases (show n = 0 ∨ n = 1 ∨ n = 2 ∨ n = 3 by omega) with rfl | rfl | rfl | rfl
    · cases hk; exact ha.1
    · cases hk; exact ha.2.1
    · cases hk; exact ha.2.2.1
    · cases hk; exact ha.2.2.2
  · intro ρ hag
    have g0 : ρ.i 0 = a.ul := (hag 0 (by decide)).1.symm
    have g1 : ρ.i 1 = a.uh := (hag 1 (by decide)).1.symm
    have g2 : ρ.i 2 = a.sl := (hag 2 (by decide)).1.symm
    have g3 : ρ.i 3 = a.sh := (hag 3 (by decide)).1.symm
    show some ([.agg #[.int .u64 (ρ.i 0), .int .u64 (ρ.i 1), .int .i64 (ρ.i 2), .int .i64 (ρ.i 3)]] : List Value) = _
    rw [g0, g1, g2, g3]
  · intro ρ hag
    have g0 : ρ.i 0 = a.ul := (hag 0 (by decide)).1.symm
    have g1 : ρ.i 1 = a.uh := (hag 1 (by decide)).1.symm
    have g2 : ρ.i 2 = a.sl := (hag 2 (by decide)).1.symm
    have g3 : ρ.i 3 = a.sh := (hag 3 (by decide)).1.symm
    simp only [sT_low, Tr.asks, eqs, E.I, E.B, E.L, V.den, C.den, denL, den0, den0L, Option.map_some, Nat.add_zero, Nat.reduceAdd, and_true, Rg.eta, g0, g1, g2, g3]
    simp only [sP_low, b01, Pi.eta, Pu.eta, Rg.eta, sI_may, sB_may, sI_all, sB_all, sI_nard, sB_nard]
    intro e4
    (try simp only [e4, Pi.eta, Pu.eta, Rg.eta])
    (try clear e4)
    refine ⟨fun c0 => ?_, fun c0 => ?_⟩
    · skip
      refine ⟨fun c1 => ?_, fun c1 => ?_⟩
      · skip
        rintro ⟨e5, e6, e7, e8⟩
        (try simp only [e5, e6, e7, e8, Pi.eta, Pu.eta, Rg.eta])
        (try clear e5 e6 e7 e8)
        rintro ⟨e9, e10, e11, e12⟩
        (try simp only [e9, e10, e11, e12, Pi.eta, Pu.eta, Rg.eta])
        (try clear e9 e10 e11 e12)
        all_goals
          refine congrArg some ?_
          (rw [show blow a = bnar (bu 0 4294967295) from if_neg (fun q => absurd (of_decide_eq_true c1) (Int.not_lt.2 q.2))]; try rfl)
      · skip
        all_goals
          refine congrArg some ?_
          (rw [show blow a = a from if_pos ⟨c0, Int.not_lt.1 (of_decide_eq_false c1)⟩]; try rfl)
    · skip
      rintro ⟨e5, e6, e7, e8⟩
      (try simp only [e5, e6, e7, e8, Pi.eta, Pu.eta, Rg.eta])
      (try clear e5 e6 e7 e8)
      rintro ⟨e9, e10, e11, e12⟩
      (try simp only [e9, e10, e11, e12, Pi.eta, Pu.eta, Rg.eta])
      (try clear e9 e10 e11 e12)
      all_goals
        refine congrArg some ?_
        (rw [show blow a = bnar (bu 0 4294967295) from if_neg (fun q => by rw [c0] at q; exact absurd q.1 (by simp))]; try rfl)
def sM_low (key : Nat) : Sm := ⟨34, key, [(true, [.int .u64, .int .u64, .int .i64, .int .i64])], [(true, [.int .u64, .int .u64, .int .i64, .int .i64])], false⟩
def sI_low : Nat → List Int → Int
  | 0, [x0, x1, x2, x3] => (fun (a : Rg) => (blow a).ul) ⟨x0, x1, x2, x3⟩
  | 1, [x0, x1, x2, x3] => (fun (a : Rg) => (blow a).uh) ⟨x0, x1, x2, x3⟩
  | 2, [x0, x1, x2, x3] => (fun (a : Rg) => (blow a).sl) ⟨x0, x1, x2, x3⟩
  | 3, [x0, x1, x2, x3] => (fun (a : Rg) => (blow a).sh) ⟨x0, x1, x2, x3⟩
  | _, _ => 0
def sB_low : Nat → List Int → Bool
  | _, _ => false
theorem sK_low {sp : Spec} {key : Nat} (hI : sp.I key = sI_low) (hB : sp.B key = sB_low) : SmOk Try.prog sp (sM_low key) := by
  refine SmOk.of (.inl ⟨run_enter Try.func34 (by kernel_rfl) (by kernel_rfl), fun xs vals h => ?_⟩) (.inr (.inl ⟨_, rfl⟩))
  obtain ⟨_, _, _, p1, h1, rfl⟩ := shA h
  obtain ⟨_, _, _, d1_0, p1_0, rfl⟩ := cksC p1
  obtain ⟨x0, rfl, rfl, gx0⟩ := ckI d1_0
  obtain ⟨_, _, _, d1_1, p1_1, rfl⟩ := cksC p1_0
  obtain ⟨x1, rfl, rfl, gx1⟩ := ckI d1_1
  obtain ⟨_, _, _, d1_2, p1_2, rfl⟩ := cksC p1_1
  obtain ⟨x2, rfl, rfl, gx2⟩ := ckI d1_2
  obtain ⟨_, _, _, d1_3, p1_3, rfl⟩ := cksC p1_2
  obtain ⟨x3, rfl, rfl, gx3⟩ := ckI d1_3
  obtain ⟨rfl, rfl⟩ := cksN p1_3
  obtain ⟨rfl, rfl⟩ := shN h1
  refine ⟨_, sX_low ⟨x0, x1, x2, x3⟩ ⟨gx0, gx1, gx2, gx3⟩, fun ρ v0 he => ?_⟩
  have he' : ρ.i (v0 + 0) = sp.I key 0 [x0, x1, x2, x3] ∧ ρ.i (v0 + 1) = sp.I key 1 [x0, x1, x2, x3] ∧ ρ.i (v0 + 2) = sp.I key 2 [x0, x1, x2, x3] ∧ ρ.i (v0 + 3) = sp.I key 3 [x0, x1, x2, x3] ∧ True := he
  simp only [hI, hB] at he'
  obtain ⟨e0, e1, e2, e3, -⟩ := he'
  show some (.agg #[.int .u64 (ρ.i (v0 + 0)), .int .u64 (ρ.i (v0 + 1)), .int .i64 (ρ.i (v0 + 2)), .int .i64 (ρ.i (v0 + 3))] : Value) = _
  rw [e0, e1, e2, e3]
  rfl
end Go.Proofs.Ytcngfmhhaleoaaa
