import Derived.Test.YtghiofgomcihcaaSyG3
import Derived.Maps.RangeRun
set_option linter.unusedVariables false
set_option linter.unusedSimpArgs false
namespace Go.Proofs.Ytghiofgomcihcaa
open Go.RowKit
open Go.ChangeMaps (setBlock)
section
variable {P : Program} {sp : Spec} {ρ : Env} {G : Env → E → Prop} {I : Nat → List Dt → Prop} {base : Nat} {cx : Cx} {vw : Vw} {o : Oper} {k : Eff → Kw → Tr}
theorem run_getMap {w : World} {r c : Nat} {es : Array MapEntry} (h : w.heap[r]? = some (.map es c)) : (getObj r).run P w = .ok (.map es c) w := by simp [getObj, Sem.run, h]
theorem run_setMap {w : World} {r c : Nat} {es : Array MapEntry} (h : w.heap[r]? = some (.map es c)) (ob : Obj) : (setObj r ob).run P w = .ok () (setBlock w r ob) := by simp [setObj, Sem.run, h, setBlock]
theorem grown_setBlock (w : World) (r : Nat) (ob : Obj) : w.grownBy (setBlock w r ob) (some r) := by
 refine ⟨rfl, rfl, rfl, by simp [setBlock], fun k hk hne => ?_⟩
 have : r ≠ k := fun e => hne (by rw [e])
 simp [setBlock, Array.getElem?_setIfInBounds, this]
theorem setBlock_at {w : World} {r : Nat} (h : r < w.heap.size) (ob : Obj) : (setBlock w r ob).heap[r]? = some ob := by
 simp [setBlock, Array.getElem?_setIfInBounds, h]
theorem eqVs_rows : ∀ {ks : List CE} {a b : List Int}, rowIn ks a = true → rowIn ks b = true → eqVs (rowV ks a) (rowV ks b) = (a == b)
 | [], [], [], _, _ => rfl
 | some k :: ks, x :: xs, y :: ys, ha, hb => by
   simp only [rowIn, Bool.and_eq_true] at ha hb
   simp only [rowV, cellV, eqVs, eqVs_rows ha.2 hb.2]
   rfl
 | none :: ks, x :: xs, y :: ys, ha, hb => by
   simp only [rowIn, Bool.and_eq_true, inCE, Bool.or_eq_true, beq_iff_eq] at ha hb
   simp only [rowV, cellV, eqVs, eqVs_rows ha.2 hb.2]
   show _ = ((x == y) && (xs == ys))
   rcases ha.1 with rfl | rfl <;> rcases hb.1 with rfl | rfl <;> rfl
theorem kindsV_row : ∀ {zs : List C} {ks : List CE} {a : List Int}, ksOf zs = some ks → rowIn ks a = true → kindsV (rowV ks a) zs
 | [], ks, a, h, ha => by cases h; cases a with
   | nil => trivial
   | cons => cases ha
 | .int k e :: zs, ks, a, h, ha => by
   simp only [ksOf, Option.map_eq_some_iff] at h
   obtain ⟨l, hl, rfl⟩ := h
   cases a with
   | nil => cases ha
   | cons x xs =>
     simp only [rowIn, Bool.and_eq_true] at ha
     exact ⟨rfl, ha.1, kindsV_row hl ha.2⟩
 | .bool e :: zs, ks, a, h, ha => by
   simp only [ksOf, Option.map_eq_some_iff] at h
   obtain ⟨l, hl, rfl⟩ := h
   cases a with
   | nil => cases ha
   | cons x xs =>
     simp only [rowIn, Bool.and_eq_true] at ha
     exact kindsV_row (zs := zs) (ks := l) (a := xs) hl ha.2
theorem ksOf_length : ∀ {zs : List C} {ks : List CE}, ksOf zs = some ks → ks.length = zs.length
 | [], _, h => by cases h; rfl
 | .int _ _ :: zs, ks, h => by
   simp only [ksOf, Option.map_eq_some_iff] at h
   obtain ⟨l, hl, rfl⟩ := h
   simp [ksOf_length hl]
 | .bool _ :: zs, ks, h => by
   simp only [ksOf, Option.map_eq_some_iff] at h
   obtain ⟨l, hl, rfl⟩ := h
   simp [ksOf_length hl]
theorem kindsC_length : ∀ {cs zs : List C}, kindsC cs zs = true → cs.length = zs.length
 | [], [], _ => rfl
 | .int _ _ :: l, .int _ _ :: r, h => by simp only [kindsC, Bool.and_eq_true] at h; simp [kindsC_length h.2]
 | .bool _ :: l, .bool _ :: r, h => by simp only [kindsC] at h; simp [kindsC_length h]
theorem rowV_take : ∀ (ks : List CE) (r : List Int) (n : Nat), (rowV ks r).take n = rowV (ks.take n) (r.take n)
 | [], r, n => by simp [rowV]
 | k :: ks, [], n => by cases n <;> simp [rowV]
 | k :: ks, x :: xs, 0 => by simp [rowV]
 | k :: ks, x :: xs, n + 1 => by simp [rowV, rowV_take ks xs n]
theorem rowIn_take : ∀ {ks : List CE} {r : List Int} (n : Nat), rowIn ks r = true → rowIn (ks.take n) (r.take n) = true
 | [], [], n, _ => by simp [rowIn]
 | k :: ks, x :: xs, 0, _ => rfl
 | k :: ks, x :: xs, n + 1, h => by
   simp only [rowIn, Bool.and_eq_true] at h
   simp [rowIn, h.1, rowIn_take n h.2]
def valsR (r : List Int) : Nat → List CE → List Value
 | _, [] => []
 | c, k :: ks => cellV k (r.getD c 0) :: valsR r (c + 1) ks
theorem valsR_cons (x : Int) (xs : List Int) : ∀ (ks : List CE) (c : Nat), valsR (x :: xs) (c + 1) ks = valsR xs c ks
 | [], c => rfl
 | k :: ks, c => by simp only [valsR, valsR_cons x xs ks (c + 1)]; rfl
theorem valsR_row : ∀ {ks : List CE} {r : List Int} (c : Nat), rowIn ks r = true → valsR r c (ks.drop c) = (rowV ks r).drop c
 | [], [], c, _ => by simp [valsR, rowV]
 | k :: ks, x :: xs, 0, h => by
   simp only [rowIn, Bool.and_eq_true] at h
   have := valsR_row 0 h.2
   simp only [List.drop_zero] at this ⊢
   simp only [valsR, rowV, valsR_cons, this]
   rfl
 | k :: ks, x :: xs, c + 1, h => by
   simp only [rowIn, Bool.and_eq_true] at h
   simp only [List.drop_succ_cons, valsR_cons, rowV]
   exact valsR_row c h.2
theorem valsR_take : ∀ {ks : List CE} {r : List Int} (c : Nat), rowIn ks r = true → valsR r 0 (ks.take c) = (rowV ks r).take c
 | [], [], c, _ => by simp [valsR, rowV]
 | k :: ks, x :: xs, 0, h => by simp [valsR]
 | k :: ks, x :: xs, c + 1, h => by
   simp only [rowIn, Bool.and_eq_true] at h
   simp only [List.take_succ_cons, valsR, rowV, valsR_cons, valsR_take c h.2]
   rfl
theorem rowCs_den {j : J} {l e : E} : ∀ (ks : List CE) (c : Nat), denL ρ j (rowCs l e c ks) = some (valsR ((l.R ρ).getD (e.I ρ).toNat []) c ks)
 | [], c => rfl
 | k :: ks, c => by
   simp only [rowCs, denL, rowC_den, rowCs_den ks (c + 1), valsR]
   rfl
theorem zeros_den {j : J} : ∀ {zs : List C} {ks : List CE} (c : Nat), zs.all C.isZero = true → ksOf zs = some ks → denL ρ j zs = some (valsR [] c ks)
 | [], ks, c, _, h => by cases h; rfl
 | .int k (.lit z) :: zs, ks, c, hz, h => by
   simp only [ksOf, Option.map_eq_some_iff] at h
   obtain ⟨l, hl, rfl⟩ := h
   simp only [List.all_cons, Bool.and_eq_true] at hz
   have e : z = 0 := zSame_eq hz.1
   subst e
   simp only [denL, C.den, E.I, zeros_den (c + 1) hz.2 hl, valsR]
   simp [cellV]
 | .bool (.tt b) :: zs, ks, c, hz, h => by
   simp only [ksOf, Option.map_eq_some_iff] at h
   obtain ⟨l, hl, rfl⟩ := h
   simp only [List.all_cons, Bool.and_eq_true] at hz
   have e : b = false := by simpa [C.isZero] using hz.1
   subst e
   simp only [denL, C.den, E.B, zeros_den (c + 1) hz.2 hl, valsR]
   simp [cellV]
theorem entsV_get {ks : List CE} {nk : Nat} {ka va : Bool} : ∀ (L : List (List Int)) (i m : Nat), (entsV ks nk ka va i L)[m]? = (L[m]?).map (entV ks nk ka va (i + m))
 | [], i, m => by simp [entsV]
 | r :: L, i, 0 => by simp [entsV]
 | r :: L, i, m + 1 => by
   simp only [entsV, List.getElem?_cons_succ, entsV_get L (i + 1) m]
   congr 2
   omega
theorem entsV_length {ks : List CE} {nk : Nat} {ka va : Bool} : ∀ (L : List (List Int)) (i : Nat), (entsV ks nk ka va i L).length = L.length
 | [], i => rfl
 | r :: L, i => by simp [entsV, entsV_length L]
def isKey (key r : List Int) : Bool := r.take key.length == key
def found (ks : List CE) (nk : Nat) (va : Bool) (key : List Int) (i : Nat) (L : List (List Int)) : Option (Nat × Value) :=
 (L[L.findIdx (isKey key)]?).map fun r => (i + L.findIdx (isKey key), cellsV va ((rowV ks r).drop nk))
theorem found_cons {ks : List CE} {nk : Nat} {va : Bool} {key : List Int} {i : Nat} {r : List Int} {L : List (List Int)} : found ks nk va key i (r :: L) = if isKey key r = true then some (i, cellsV va ((rowV ks r).drop nk)) else found ks nk va key (i + 1) L := by
 unfold found
 rw [List.findIdx_cons]
 cases h : isKey key r with
 | true => simp
 | false =>
   simp only [cond_false, List.getElem?_cons_succ, Bool.false_eq_true, if_false]
   congr 1
   funext r
   congr 1
   omega
theorem findAsking_ok {ks : List CE} {nk kt : Nat} {ka va : Bool} {key : List Int} {K : Value} : ∀ (L : List (List Int)) (i : Nat) (w : World), (∀ r ∈ L, ∀ i w, (Op.equal kt K (entV ks nk ka va i r).key).run P w = .ok (isKey key r) w) →
  (Instr.findAsking kt K (entsV ks nk ka va i L) i).run P w = .ok (found ks nk va key i L) w
 | [], i, w, _ => by simp [entsV, Instr.findAsking, found]
 | r :: L, i, w, h => by
   simp only [entsV, Instr.findAsking, Sem.run_bind, h r List.mem_cons_self, Result.andThen_ok, found_cons]
   cases isKey key r with
   | true => simp [entV]
   | false => simp only [Bool.false_eq_true, if_false]; exact findAsking_ok L (i + 1) w (fun r hr => h r (List.mem_cons_of_mem _ hr))
theorem findNow_ok {ks : List CE} {nk : Nat} {kd : IntKind} {va : Bool} {x : Int} (hks : ∃ t, ks = some kd :: t) (hn : nk = 1) : ∀ (L : List (List Int)) (i : Nat), (∀ r ∈ L, rowIn ks r = true) →
  Instr.findNow (.int kd) (.int kd x) (entsV ks nk false va i L) i = some (found ks nk va [x] i L)
 | [], i, _ => by simp [entsV, Instr.findNow, found]
 | r :: L, i, h => by
   obtain ⟨t, rfl⟩ := hks
   subst hn
   have hr := h r List.mem_cons_self
   cases r with
   | nil => cases hr
   | cons y ys =>
     have e : (entV (some kd :: t) 1 false va i (y :: ys)).key = .int kd y := rfl
     simp only [entsV, Instr.findNow, e, Instr.sameNow, if_true]
     rw [found_cons]
     have e2 : isKey [x] (y :: ys) = (x == y) := by
      show ([y] == [x]) = _
      rw [Bool.eq_iff_iff]; simp; exact eq_comm
     rw [e2]
     cases x == y with
     | true => rfl
     | false => simp only [Bool.false_eq_true, if_false]; exact findNow_ok ⟨t, rfl⟩ rfl L (i + 1) (fun r hr => h r (List.mem_cons_of_mem _ hr))
theorem mix_found {ks : List CE} {nk : Nat} {va : Bool} {key : List Int} {L : List (List Int)} : decide (mixI L key < (L.length : Int)) = (found ks nk va key 0 L).isSome := by
 unfold found mixI
 rw [show (fun r : List Int => r.take key.length == key) = isKey key from rfl]
 rw [Bool.eq_iff_iff]
 simp only [decide_eq_true_eq, Option.isSome_map]
 rw [Option.isSome_iff_ne_none, ne_eq, List.getElem?_eq_none_iff]
 omega
structure Fits (P : Program) (ρ : Env) (i : TI) (r : RowOb) (nk : Nat) (ka va : Bool) (ki ei : TI) (kt et t : Nat) (K : Value) (kvals : List Value) (key : List Int) : Prop where
 ty : r.ty = t
 und : P.underlying t = some (.map kt et)
 kval : K = cellsV ka kvals
 kk : kvals = rowV (r.ks.take nk) key
 kin : rowIn (r.ks.take nk) key = true
 len : key.length = nk
 pos : nk ≤ r.ks.length
 zero : ∃ z, (∀ w, (zeroValue et).run P w = .ok z w) ∧ z = cellsV va (valsR [] nk (r.ks.drop nk))
 chk : ∀ b w, (Instr.checkKey b 10000 kt K).run P w = .ok () w
 find : ∀ L : List (List Int), (∀ x ∈ L, rowIn r.ks x = true) → ∀ w, (Instr.findKey kt K (entsV r.ks nk ka va 0 L)).run P w = .ok (found r.ks nk va key 0 L) w
 bits : Instr.sameBits 10000 K K = true
theorem kv_val {j : J} {kv : V} {K : Value} {ka : Bool} {vals : List Value} (hd : kv.den ρ j = some K) (ha : aggIs ka kv = true) (hv : denL ρ j kv.cells = some vals) : K = cellsV ka vals := by
 cases kv with
 | one c =>
   have : ka = false := by simpa [aggIs] using ha
   subst this
   have hd' : c.den ρ j = some K := hd
   simp only [V.cells, denL, hd', Option.some.injEq] at hv
   subst hv
   rfl
 | agg cs =>
   have : ka = true := ha
   subst this
   simp only [V.den, Option.map_eq_some_iff] at hd
   obtain ⟨vs, h1, rfl⟩ := hd
   simp only [V.cells] at hv
   rw [h1] at hv; cases hv
   rfl
 | tup _ => cases ha
 | top => cases hd
theorem sameBits_cell (n : Nat) (k : CE) (x : Int) : Instr.sameBits (n + 1) (cellV k x) (cellV k x) = true := by
 cases k <;> simp [cellV, Instr.sameBits]
theorem rowV_mem : ∀ {ks : List CE} {r : List Int} {v : Value}, v ∈ rowV ks r → ∃ k x, v = cellV k x
 | [], _, v, h => by simp [rowV] at h
 | k :: ks, [], v, h => by simp [rowV] at h
 | k :: ks, x :: xs, v, h => by
   rcases List.mem_cons.1 h with rfl | h
   ·exact ⟨k, x, rfl⟩
   ·exact rowV_mem h
theorem sameBits_row {ks : List CE} {r : List Int} : Instr.sameBits 10000 (.agg (rowV ks r).toArray) (.agg (rowV ks r).toArray) = true := by
 show ((rowV ks r).toArray.size == (rowV ks r).toArray.size && ((rowV ks r).toArray.toList.zip (rowV ks r).toArray.toList).all fun (x, y) => Instr.sameBits 9999 x y) = true
 rw [Bool.and_eq_true]
 refine ⟨by simp, List.all_eq_true.2 fun p hp => ?_⟩
 have e : ∀ (l : List Value), ∀ p ∈ l.zip l, p.1 = p.2 ∧ p.1 ∈ l := by
  intro l
  induction l with
  | nil => intro p hp; simp at hp
  | cons a l ih =>
    intro p hp
    rcases List.mem_cons.1 hp with rfl | hp
    ·exact ⟨rfl, List.mem_cons_self⟩
    ·exact ⟨(ih p hp).1, List.mem_cons_of_mem _ (ih p hp).2⟩
 obtain ⟨h1, h2⟩ := e _ p hp
 obtain ⟨a, b⟩ := p
 simp only at h1 h2
 subst h1
 obtain ⟨k, x, rfl⟩ := rowV_mem h2
 exact sameBits_cell 9998 k x
theorem sameNow_agg (d : TypeDesc) (a : Array Value) (v : Value) : Instr.sameNow d (.agg a) v = none := by cases d <;> rfl
theorem checkInt {kt : Nat} {kd kd' : IntKind} (hu : P.underlying kt = some (.int kd)) (x : Int) (b : Bool) (w : World) : (Instr.checkKey b 10000 kt (.int kd' x)).run P w = .ok () w := by
 show (Instr.checkKey b (9999 + 1) kt (.int kd' x)).run P w = _
 unfold Instr.checkKey
 rw [Sem.run_bind, run_underlying hu]
 rfl
theorem fits_of (hT : ∀ t i, (t, i) ∈ cx.ty → TIok P t i) {j : J} {vk : List VK} (hv : Vk ρ vk) {t kt et nk : Nat} {i ki ei : TI} {r : RowOb} {ka va : Bool} {kv : V} {K : Value} {key : E} (hi : lookN t cx.ty = some i) (hm : i.mapt = some (kt, et)) (hki : lookN kt cx.ty = some ki) (hei : lookN et cx.ty = some ei)
  (hkey : rowE vk (r.ks.take nk) kv.cells = some key) (hf : keyFits i r nk ka va ki ei kv t = true) (hd : kv.den ρ j = some K) : ∃ kvals, denL ρ j kv.cells = some kvals ∧ Fits P ρ i r nk ka va ki ei kt et t K kvals (key.L ρ) := by
 have ti := hT _ _ (lookN_mem hi)
 have tk := hT _ _ (lookN_mem hki)
 have te := hT _ _ (lookN_mem hei)
 unfold keyFits at hf
 simp only [Bool.and_eq_true, beq_iff_eq] at hf
 obtain ⟨f1, f2, f3, f4, f5, f6, f7, f8, f9⟩ := hf
 split at f9
 ·rename_i a b ha hb
  have hks := ceSame_eq f9
  have hn : nk = kv.cells.length := Nat.eq_of_beq_eq_true f8
  have hal : a.length = nk := by rw [ksOf_length ha, hn, kindsC_length f6]
  have t1 : r.ks.take nk = a := by rw [hks, ← hal, List.take_left']; rfl
  have t2 : r.ks.drop nk = b := by rw [hks, ← hal, List.drop_left']; rfl
  have hflat : kv.flat = true := by cases kv <;> first | rfl | (cases f2)
  obtain ⟨kvals, hkv⟩ : ∃ kvals, denL ρ j kv.cells = some kvals := ⟨_, V.cells_ok hd hflat⟩
  obtain ⟨e1, e2⟩ := rowE_ok hv hkey hkv
  have hK := kv_val hd f2 hkv
  have hlen : (key.L ρ).length = nk := by rw [rowIn_length e2, t1, hal]
  have isz : 0 < 10000 := by decide
  refine ⟨kvals, hkv, Nat.eq_of_beq_eq_true f1, ti.mapt _ _ hm, hK, e1, e2, hlen, by rw [hks, List.length_append]; omega, ?_, ?_, ?_, ?_⟩
  ·obtain ⟨z, hz, hzd⟩ := te.zero
   refine ⟨z, hz, ?_⟩
   have h1 := hzd ρ j
   rw [zeros_den nk f5 hb] at h1
   have h2 := te.zsh z hz
   have hzc : z.cells.toList = valsR [] nk b := (Option.some.inj h1).symm
   rw [t2]
   cases va with
   | true => rw [h2.1 f4, ← hzc]; simp [cellsV]
   | false =>
     have h3 := h2.2 f4
     rw [h3] at hzc
     simp only [cellsV, Bool.false_eq_true, if_false, ← hzc]
     rfl
  all_goals
   cases ka with
   | true =>
     simp only [cond_true, Bool.and_eq_true] at f7
     have K1 : K = .agg (rowV a (key.L ρ)).toArray := by rw [hK, e1, t1]; rfl
     have kz := kindsV_row ha (t1 ▸ e2)
     first
      | exact fun b w => by rw [K1]; exact tk.key f7.1 _ kz b w
      | (intro L hL w
         unfold Instr.findKey
         obtain ⟨d, hdu⟩ := tk.und
         rw [Sem.run_bind, run_underlying hdu, Result.andThen_ok]
         cases L with
         | nil => simp [entsV, Instr.findNow, found]
         | cons x L =>
           simp only [entsV, Instr.findNow]
           rw [K1, sameNow_agg]
           simp only
           rw [← K1]
           refine findAsking_ok (x :: L) 0 w fun y hy i w => ?_
           have hy' := hL y hy
           have e3 : (entV r.ks nk true va i y).key = .agg (rowV a (y.take nk)).toArray := by
            show cellsV true ((rowV r.ks y).take nk) = _
            rw [rowV_take, t1]; rfl
           have hy2 : rowIn a (y.take nk) = true := t1 ▸ rowIn_take nk hy'
           rw [K1, e3, tk.eq f7.2 _ _ kz (kindsV_row ha hy2), eqVs_rows (t1 ▸ e2) hy2]
           congr 1
           unfold isKey
           rw [hlen, Bool.eq_iff_iff]
           simp only [beq_iff_eq]
           exact eq_comm)
      | (rw [K1]; exact sameBits_row)
   | false =>
     simp only [cond_false] at f7
     split at f7
     ·rename_i kd kd' rest hik hr0
      simp only [Bool.and_eq_true] at f7
      have hkd := kdSame_eq f7.1
      subst hkd
      have n1 : nk = 1 := Nat.eq_of_beq_eq_true f7.2
      subst n1
      have hu := tk.ik kd hik
      have ha' : a = [some kd] := by rw [← t1, hr0]; rfl
      obtain ⟨x, hx⟩ : ∃ x, key.L ρ = [x] := by
       have := hlen
       match hk2 : key.L ρ, this with
       | [x], _ => exact ⟨x, rfl⟩
      have K1 : K = .int kd x := by rw [hK, e1, t1, ha', hx]; rfl
      first
       | exact fun b w => by rw [K1]; exact checkInt hu x b w
       | (intro L hL w
          unfold Instr.findKey
          rw [Sem.run_bind, run_underlying hu, Result.andThen_ok, K1, findNow_ok ⟨rest, hr0⟩ rfl L 0 hL, hx]
          rfl)
       | (rw [K1]; exact sameBits_cell 9999 (some kd) x)
     ·cases f7
 ·cases f9
theorem mp_of {j : J} {id : Nat} {s : SV} {v : Value} (hs : j.s id = some s) (h : (V.one (.mp id)).den ρ j = some v) : v = s.mv := by
 have h' : (j.s id).map SV.mv = some v := h
 rw [hs] at h'
 exact (Option.some.inj h').symm
theorem Vw.mw_some {vw : Vw} {id nk : Nat} {r : RowOb} {ka va : Bool} (h : vw.mw id = some (r, nk, ka, va)) : vw.rw id = some r ∧ r.kd = .map nk ka va := by
 unfold Vw.mw at h
 split at h
 ·rename_i q hq
  split at h
  ·rename_i hk; cases h; exact ⟨hq, hk⟩
  ·cases h
 ·cases h
theorem Vw.iw_some {vw : Vw} {id mid : Nat} {r : RowOb} {n : E} (h : vw.iw id = some (r, mid, n)) : vw.rw id = some r ∧ r.kd = .it mid n := by
 unfold Vw.iw at h
 split at h
 ·rename_i q hq
  split at h
  ·rename_i hk; cases h; exact ⟨hq, hk⟩
  ·cases h
 ·cases h
theorem RowOk.map {w : World} {s : SV} {r : RowOb} {nk : Nat} {ka va : Bool} (h : RowOk ρ base w s r) (hk : r.kd = .map nk ka va) : ∃ g, s.a = some ⟨g, 0, none⟩ ∧ base ≤ g ∧ w.heap[g]? = some (.map (entsV r.ks nk ka va 0 (r.l.R ρ)).toArray (r.l.R ρ).length) ∧ RowsIn r.ks (r.l.R ρ) ∧ s.c = 1 ∧ r.own = true := by
 have hd := h.2.1 (by rw [hk]; rfl)
 obtain ⟨g, ob, h1, h2, h3, h4⟩ := hd.at'
 unfold obOf at h4
 rw [hk] at h4
 exact ⟨g, h1, h2, by rw [h3, h4], hd.rows, hd.c, hd.own⟩
theorem map_ok {w : World} {s : SV} {r : RowOb} {nk : Nat} {ka va : Bool} {g : Nat} (hk : r.kd = .map nk ka va) (ho : r.own = true) (h1 : s.a = some ⟨g, 0, none⟩) (h2 : base ≤ g) (h3 : w.heap[g]? = some (.map (entsV r.ks nk ka va 0 (r.l.R ρ)).toArray (r.l.R ρ).length)) (h4 : RowsIn r.ks (r.l.R ρ)) (h5 : s.c = 1) : RowOk ρ base w s r :=
 HdOk.row ⟨ho, h4, h5, g, _, h1, h2, h3, by unfold obOf; rw [hk]⟩ (by rw [hk]; rfl)
theorem snd_makeMap (hT : ∀ t i, (t, i) ∈ cx.ty → TIok P t i) {t kt et : Nat} {kw : Kw} (hop : o.op = .makeMap t none) {i ki ei : TI} (hi : lookN t cx.ty = some i) (hm : i.mapt = some (kt, et)) {kk ek : List CE}
  (h : (k { val := .one (.mp vw.nid), re := .mk [⟨kk ++ ek, t, .lnil, true, .map kk.length ki.agg ei.agg⟩] } kw).holds sp G ρ I) (hg : Good sp cx.sm ρ kw) : Sound P sp ρ G I base cx vw o k kw := by
 refine ⟨_, kw, h, hg, .refl _, fun j a w hb hev hrd hwr hrr hfb K Q hK => ?_⟩
 have hx : Ext w (w.alloc (.map #[] 0)) := (Ext.refl w).alloc _
 refine wp_val (w' := w.alloc (.map #[] 0)) (v := .map (some w.heap.size)) ?_ (hK _ (j.putL vw.nid [⟨some ⟨w.heap.size, 0, none⟩, 1, 1, []⟩]) _ (by simp [V.den, C.den, J.putL, SV.mv]) (mk_one hx (map_ok (g := w.heap.size) rfl rfl rfl (Nat.le_refl _) (heap_alloc_new _ _) ⟨by simp [E.R], by simp [E.R]⟩ rfl) rfl rfl))
 simp [execOp, hop, Instr.makeMap, newObj, Sem.run_bind, Sem.run]
theorem run_lookup_ok {w : World} {t kt et nk g : Nat} {i ki ei : TI} {r : RowOb} {ka va : Bool} {K : Value} {kvals : List Value} {key : List Int} (hF : Fits P ρ i r nk ka va ki ei kt et t K kvals key) {L : List (List Int)} (hL : ∀ x ∈ L, rowIn r.ks x = true) (hw : w.heap[g]? = some (.map (entsV r.ks nk ka va 0 L).toArray L.length)) (ok : Bool) :
  (Instr.lookup t (.map (some g)) K ok).run P w = .ok (if ok = true then .tuple #[cellsV va (valsR (L.getD (mixI L key).toNat []) nk (r.ks.drop nk)), .bool (decide (mixI L key < (L.length : Int)))] else cellsV va (valsR (L.getD (mixI L key).toNat []) nk (r.ks.drop nk))) w := by
 have hfd := hF.find L hL w
 obtain ⟨z, hz, hz2⟩ := hF.zero
 have hmx : (mixI L key).toNat = L.findIdx (isKey key) := by
  unfold mixI
  rw [show (fun r : List Int => r.take key.length == key) = isKey key from rfl]; simp
 have key' : (Instr.lookup t (.map (some g)) K ok).run P w = ((match found r.ks nk va key 0 L with
   | some (_, v) => pure (v, true)
   | none => do pure (← zeroValue et, false) : Sem (Value × Bool)) >>= fun p => pure (if ok = true then .tuple #[p.1, .bool p.2] else p.1)).run P w := by
  unfold Instr.lookup
  simp only [Sem.run_bind, run_underlying hF.und, Result.andThen_ok, run_getMap hw, Sem.run_pure, hF.chk, hfd]
  cases found r.ks nk va key 0 L with
  | none => simp only [Sem.run_bind, hz, Result.andThen_ok, Sem.run_pure]
  | some p => obtain ⟨a, b⟩ := p; simp only [Sem.run_bind, Result.andThen_ok, Sem.run_pure]
 rw [key', mix_found (ks := r.ks) (nk := nk) (va := va)]
 rw [hmx]
 unfold found
 cases hx : L[L.findIdx (isKey key)]? with
 | none =>
   simp only [Option.map_none, Option.isSome_none, Sem.run_bind, hz, Result.andThen_ok, Sem.run_pure]
   rw [List.getD_eq_getElem?_getD, hx, hz2]
   rfl
 | some x =>
   have hxm : x ∈ L := List.mem_of_getElem? hx
   simp only [Option.map_some, Option.isSome_some, Sem.run_bind, Result.andThen_ok, Sem.run_pure]
   rw [List.getD_eq_getElem?_getD, hx]
   simp only [Option.getD_some]
   rw [valsR_row nk (hL x hxm)]
theorem mapVal_den {j : J} {ok va : Bool} {cs : List C} {has : E} {vals : List Value} (hd : denL ρ j cs = some vals) (hl : va = false → cs.length = 1) : (mapVal ok va cs has).den ρ j = some (if ok = true then .tuple #[cellsV va vals, .bool (has.B ρ)] else cellsV va vals) := by
 have one : va = false → ∃ c v, cs = [c] ∧ vals = [v] ∧ c.den ρ j = some v := by
  intro hva
  have := hl hva
  match cs, this with
  | [c], _ =>
    simp only [denL] at hd
    cases hc : c.den ρ j with
    | none => rw [hc] at hd; cases hd
    | some v => rw [hc] at hd; cases hd; exact ⟨c, v, rfl, rfl, hc⟩
 have hb : (C.bool has).den ρ j = some (.bool (has.B ρ)) := rfl
 unfold mapVal
 cases ok with
 | true =>
   simp only [if_true]
   cases va with
   | true => simp [V.den, den0L, den0, hd, hb, cellsV]
   | false =>
     obtain ⟨c, v, rfl, rfl, hc⟩ := one rfl
     simp [V.den, den0L, den0, hc, hb, cellsV]
 | false =>
   cases va with
   | true => simp [V.den, hd, cellsV]
   | false =>
     obtain ⟨c, v, rfl, rfl, hc⟩ := one rfl
     simp [V.den, hc, cellsV]
theorem zsh_len (hT : ∀ t i, (t, i) ∈ cx.ty → TIok P t i) {et : Nat} {ei : TI} (hei : lookN et cx.ty = some ei) (h : ei.agg = false) : ei.zero.length = 1 := by
 have te := hT _ _ (lookN_mem hei)
 obtain ⟨z, hz, hzd⟩ := te.zero
 have h2 := (te.zsh z hz).2 h
 have h3 := hzd ⟨fun _ => 0, fun _ => false, fun _ => []⟩ J.zero
 have h4 := denL_length h3
 rw [h2] at h4
 simpa using h4.symm
theorem fits_elems {i ki ei : TI} {r : RowOb} {nk t : Nat} {ka va : Bool} {kv : V} (hf : keyFits i r nk ka va ki ei kv t = true) : ei.agg = va ∧ (r.ks.drop nk).length = ei.zero.length := by
 unfold keyFits at hf
 simp only [Bool.and_eq_true, beq_iff_eq] at hf
 obtain ⟨f1, f2, f3, f4, f5, f6, f7, f8, f9⟩ := hf
 refine ⟨f4, ?_⟩
 split at f9
 ·rename_i a b ha hb
  have hks := ceSame_eq f9
  have hn : nk = kv.cells.length := Nat.eq_of_beq_eq_true f8
  have hal : a.length = nk := by rw [ksOf_length ha, hn, kindsC_length f6]
  rw [hks, ← hal, List.drop_left' rfl, ksOf_length hb]
 ·cases f9
theorem snd_lookup (hT : ∀ t i, (t, i) ∈ cx.ty → TIok P t i) {t kt et nk id : Nat} {x y : Operand} {ok : Bool} {kw : Kw} (hop : o.op = .lookup t x y ok) {kv : V} (hx : vw.ev x = some (.one (.mp id))) (hy : vw.ev y = some kv) {i ki ei : TI} (hi : lookN t cx.ty = some i) (hm : i.mapt = some (kt, et)) {r : RowOb} {ka va : Bool} (hr : vw.mw id = some (r, nk, ka, va))
  (hki : lookN kt cx.ty = some ki) (hei : lookN et cx.ty = some ei) {key : E} (hkey : rowE kw.vk (r.ks.take nk) kv.cells = some key) (hf : keyFits i r nk ka va ki ei kv t = true)
  (h : (k { val := mapVal ok va (rowCs r.l (mkMix r.l key) nk (r.ks.drop nk)) (mkLt (mkMix r.l key) (mkLen r.l)), rr := [id] } kw).holds sp G ρ I) (hg : Good sp cx.sm ρ kw) : Sound P sp ρ G I base cx vw o k kw := by
 refine ⟨_, kw, h, hg, .refl _, OpOk.pure fun j a w _ hev _ hrr _ => ?_⟩
 obtain ⟨hr1, hr2⟩ := Vw.mw_some hr
 obtain ⟨s, hs, hok⟩ := hrr id (by simp) r hr1
 obtain ⟨g, h1, h2, h3, h4, h5, h6⟩ := hok.1.map hr2
 have hdx := mp_of hs (hev x (by simp [hop, Op.operands]) _ hx)
 have hdy := hev y (by simp [hop, Op.operands]) _ hy
 obtain ⟨kvals, hkv, hF⟩ := fits_of hT hg.vk hi hm hki hei hkey hf hdy
 have hrun := run_lookup_ok hF h4.row h3 ok
 refine ⟨_, mapVal_den (rowCs_den _ _) (fun hva => ?_), ?_⟩
 ·rw [rowCs_length]
  obtain ⟨e1, e2⟩ := fits_elems hf
  rw [e2]
  exact zsh_len hT hei (by rw [e1, hva])
 ·simp only [execOp, hop, hdx, SV.mv, h1, Option.map_some, Sem.run_bind, hrun, Result.andThen_ok, Sem.run_pure, mkMix_I, mkLt_B, mkLen_I]
theorem ents_push {ks : List CE} {nk : Nat} {ka va : Bool} (L : List (List Int)) (r : List Int) : (entsV ks nk ka va 0 L).toArray.push (entV ks nk ka va L.length r) = (entsV ks nk ka va 0 (L ++ [r])).toArray := by
 rw [List.push_toArray]
 congr 1
 apply List.ext_getElem?
 intro m
 rw [entsV_get]
 rcases Nat.lt_trichotomy m L.length with h | h | h
 ·rw [List.getElem?_append_left (by rw [entsV_length]; exact h), entsV_get, List.getElem?_append_left h]
 ·subst h
  rw [List.getElem?_append_right (by rw [entsV_length]; omega), entsV_length, List.getElem?_append_right (Nat.le_refl _)]
  simp
 ·rw [List.getElem?_eq_none (by rw [List.length_append, entsV_length]; simp; omega), List.getElem?_eq_none (by rw [List.length_append]; simp; omega)]
  rfl
theorem ents_set {ks : List CE} {nk : Nat} {ka va : Bool} (L : List (List Int)) (n : Nat) (r : List Int) (K V : Value) (hK : K = cellsV ka ((rowV ks r).take nk)) (hV : V = cellsV va ((rowV ks r).drop nk)) :
  (entsV ks nk ka va 0 L).toArray.modify n (fun e => { e with key := K, val := V }) = (entsV ks nk ka va 0 (L.set n r)).toArray := by
 rw [List.modify_toArray]
 congr 1
 apply List.ext_getElem?
 intro m
 rw [entsV_get, List.getElem?_modify, entsV_get, List.getElem?_set]
 by_cases h : n = m
 ·subst h
  rw [if_pos rfl]
  rcases Nat.lt_or_ge n L.length with hl | hl
  ·rw [if_pos hl, List.getElem?_eq_getElem hl]
   simp [entV, hK, hV]
  ·rw [if_neg (by omega), List.getElem?_eq_none hl]
   rfl
 ·rw [if_neg h]
  cases L[m]? <;> simp [h]
theorem run_update_ok {w : World} {t kt et nk g : Nat} {i ki ei : TI} {r : RowOb} {ka va : Bool} {K V : Value} {kvals zvals : List Value} {key row : List Int} (hF : Fits P ρ i r nk ka va ki ei kt et t K kvals key) {L : List (List Int)} (hL : ∀ x ∈ L, rowIn r.ks x = true) (hw : w.heap[g]? = some (.map (entsV r.ks nk ka va 0 L).toArray L.length))
  (hrow : kvals ++ zvals = rowV r.ks row) (hlen : kvals.length = nk) (hV : V = cellsV va zvals) :
  (Instr.mapUpdate t (.map (some g)) K V).run P w = .ok () (setBlock w g (.map (entsV r.ks nk ka va 0 (if decide (mixI L key < (L.length : Int)) = true then L.set (mixI L key).toNat row else L ++ [row])).toArray (if decide (mixI L key < (L.length : Int)) = true then L.set (mixI L key).toNat row else L ++ [row]).length)) := by
 have hmx : (mixI L key).toNat = L.findIdx (isKey key) := by
  unfold mixI
  rw [show (fun r : List Int => r.take key.length == key) = isKey key from rfl]; simp
 have hfd := hF.find L hL w
 have k1 : K = cellsV ka ((rowV r.ks row).take nk) := by rw [← hrow, ← hlen, List.take_left' rfl]; exact hF.kval
 have v1 : V = cellsV va ((rowV r.ks row).drop nk) := by rw [← hrow, ← hlen, List.drop_left' rfl]; exact hV
 rw [hmx, mix_found (ks := r.ks) (nk := nk) (va := va)]
 have key' : ∀ q, found r.ks nk va key 0 L = q → (Instr.mapUpdate t (.map (some g)) K V).run P w = ((match q with
   | some (i, _) => do
     let key ← Instr.keyThatStays ((((entsV r.ks nk ka va 0 L).toArray[i]?).map (·.key)).getD K) K
     setObj g (.map ((entsV r.ks nk ka va 0 L).toArray.modify i fun e => { e with key, val := V }) L.length)
   | none => setObj g (.map ((entsV r.ks nk ka va 0 L).toArray.push { key := K, val := V, born := L.length }) (L.length + 1)) : Sem Unit)).run P w := by
  intro q hq
  unfold Instr.mapUpdate
  simp only [Sem.run_bind, run_underlying hF.und, Result.andThen_ok, run_getMap hw, hF.chk, hfd, hq]
  cases q with
  | none => rfl
  | some p => obtain ⟨a, b⟩ := p; simp only [Sem.run_bind]
 cases hx : L[L.findIdx (isKey key)]? with
 | none =>
   have hq : found r.ks nk va key 0 L = none := by unfold found; rw [hx]; rfl
   rw [key' _ hq, hq]
   simp only [Option.isSome_none, Bool.false_eq_true, if_false]
   rw [run_setMap hw, List.length_append]
   rw [show ({ key := K, val := V, born := L.length } : MapEntry) = entV r.ks nk ka va L.length row by unfold entV; rw [← k1, ← v1], ents_push]
   rfl
 | some x =>
   have hxm : x ∈ L := List.mem_of_getElem? hx
   have hlt := (List.getElem?_eq_some_iff.1 hx).1
   have hq : found r.ks nk va key 0 L = some (0 + L.findIdx (isKey key), cellsV va ((rowV r.ks x).drop nk)) := by unfold found; rw [hx]; rfl
   have hik : isKey key x = true := by
    have h1 := List.findIdx_getElem (w := hlt)
    rw [(List.getElem?_eq_some_iff.1 hx).2] at h1
    exact h1
   have hke : (((entsV r.ks nk ka va 0 L).toArray[0 + L.findIdx (isKey key)]?).map (·.key)).getD K = K := by
    rw [Nat.zero_add]
    have e1 : (entsV r.ks nk ka va 0 L).toArray[L.findIdx (isKey key)]? = some (entV r.ks nk ka va (0 + L.findIdx (isKey key)) x) := by
     rw [List.getElem?_toArray, entsV_get, hx]; rfl
    rw [e1]
    show cellsV ka ((rowV r.ks x).take nk) = K
    rw [hF.kval, hF.kk, rowV_take]
    have : x.take nk = key := by
     have := hik
     unfold isKey at this
     rw [hF.len] at this
     exact eq_of_beq this
    rw [this]
   rw [key' _ hq, hq]
   simp only [Option.isSome_some, if_true, hke]
   have hst : (Instr.keyThatStays K K).run P w = .ok K w := by
    unfold Instr.keyThatStays
    rw [if_pos hF.bits]
    rfl
   simp only [Sem.run_bind, hst, Result.andThen_ok]
   rw [run_setMap hw, Nat.zero_add, ents_set L _ row K V k1 v1, List.length_set]
theorem snd_mapUpdate (hT : ∀ t i, (t, i) ∈ cx.ty → TIok P t i) {t kt et nk id : Nat} {x y z : Operand} {kw : Kw} (hop : o.op = .mapUpdate t x y z) {kv zv : V} (hx : vw.ev x = some (.one (.mp id))) (hy : vw.ev y = some kv) (hz : vw.ev z = some zv) {i ki ei : TI} (hi : lookN t cx.ty = some i) (hm : i.mapt = some (kt, et)) {r : RowOb} {ka va : Bool} (hr : vw.mw id = some (r, nk, ka, va))
  (hki : lookN kt cx.ty = some ki) (hei : lookN et cx.ty = some ei) {key row : E} (hkey : rowE kw.vk (r.ks.take nk) kv.cells = some key) (hrow : rowE kw.vk r.ks (kv.cells ++ zv.cells) = some row) (hf : keyFits i r nk ka va ki ei kv t = true) (hza : aggIs va zv = true)
  (h : (decK (mkLt (mkMix r.l key) (mkLen r.l)) (fun b kw => if b then
       k { val := .one .undef, rr := [id], re := .set id { r with l := .lput r.l (mkMix r.l key) row } } kw
      else decK (mkLt (mkLen r.l) (.lit bigB)) (fun b kw => if b then k { val := .one .undef, rr := [id], re := .set id { r with l := .lapp r.l row } } kw else .stuck 130) kw) kw).holds sp G ρ I) (hg : Good sp cx.sm ρ kw) : Sound P sp ρ G I base cx vw o k kw := by
 obtain ⟨hr1, hr2⟩ := Vw.mw_some hr
 have main : ∀ (l' : E) (kw' : Kw), KwGe kw' kw → Good sp cx.sm ρ kw' → l'.R ρ = (if decide (mixI (r.l.R ρ) (key.L ρ) < ((r.l.R ρ).length : Int)) = true then (r.l.R ρ).set (mixI (r.l.R ρ) (key.L ρ)).toNat (row.L ρ) else r.l.R ρ ++ [row.L ρ]) → (RowsIn r.ks (r.l.R ρ) → (l'.R ρ).length ≤ maxLen) →
   (k { val := .one .undef, rr := [id], re := .set id { r with l := l' } } kw').holds sp G ρ I → Sound P sp ρ G I base cx vw o k kw := by
  intro l' kw' hlv hg' hl hlen hh
  refine ⟨_, kw', hh, hg', hlv, fun j a w hb hev hrd hwr hrr hfb K Q hK => ?_⟩
  obtain ⟨s, hs, hok⟩ := hrr id (by simp) r hr1
  obtain ⟨g, h1, h2, h3, h4, h5, h6⟩ := hok.1.map hr2
  have hdx := mp_of hs (hev x (by simp [hop, Op.operands]) _ hx)
  have hdy := hev y (by simp [hop, Op.operands]) _ hy
  have hdz := hev z (by simp [hop, Op.operands]) _ hz
  obtain ⟨kvals, hkv, hF⟩ := fits_of hT hg.vk hi hm hki hei hkey hf hdy
  have hzf : zv.flat = true := by cases zv <;> first | rfl | (cases hza)
  have hzv := V.cells_ok hdz hzf
  obtain ⟨e1, e2⟩ := rowE_ok hg.vk hrow (denL_append hkv hzv)
  have hkl : kvals.length = nk := by
   rw [denL_length hkv]
   unfold keyFits at hf
   simp only [Bool.and_eq_true] at hf
   exact (Nat.eq_of_beq_eq_true hf.2.2.2.2.2.2.2.1).symm
  have hrun := run_update_ok hF h4.row h3 e1 hkl (kv_val hdz hza hzv)
  rw [← hl] at hrun
  have hlt := (Array.getElem?_eq_some_iff.1 h3).1
  refine wp_skp (w' := setBlock w g (.map (entsV r.ks nk ka va 0 (l'.R ρ)).toArray (l'.R ρ).length)) ?_ (hK _ j _ rfl ⟨rfl, s, hs, ?_, map_ok (g := g) hr2 h6 h1 h2 (setBlock_at hlt _) ⟨fun q hq => ?_, hlen h4⟩ h5⟩)
  ·simp only [execOp, hop, hdx, SV.mv, h1, Option.map_some, Sem.run_bind, hrun, Result.andThen_ok, Sem.run_pure]
  ·have : s.v.ownBlock = some g := by simp [SV.v, h1, Value.ownBlock]
   rw [this]
   exact grown_setBlock w g _
  ·simp only at hq
   rw [hl] at hq
   split at hq
   ·rcases List.mem_or_eq_of_mem_set hq with hq | rfl
    ·exact h4.row q hq
    ·exact e2
   ·rcases List.mem_append.1 hq with hq | hq
    ·exact h4.row q hq
    ·rw [List.mem_singleton.1 hq]; exact e2
 obtain ⟨kw1, g1, q1, _, l1⟩ := decK_ok _ _ _ h hg
 rw [mkLt_B, mkMix_I, mkLen_I] at g1
 split at g1
 ·rename_i hlt
  refine main _ kw1 l1 q1 ?_ (fun h4 => ?_) g1
  ·simp only [E.R, mkMix_I]
   rw [if_pos hlt]
  ·simp only [E.R, List.length_set]; exact h4.len
 ·rename_i hlt
  obtain ⟨kw2, g2, q2, _, l2⟩ := decK_ok _ _ _ g1 q1
  rw [mkLt_B, mkLen_I] at g2
  split at g2
  ·rename_i hbig
   refine main _ kw2 (l2.trans l1) q2 ?_ (fun h4 => ?_) g2
   ·simp only [E.R]
    rw [if_neg hlt]
   ·have := of_decide_eq_true hbig
    simp only [E.I, bigB] at this
    simp only [E.R, List.length_append, List.length_singleton, maxLen]
    omega
  ·exact g2.elim
theorem snd_range (hT : ∀ t i, (t, i) ∈ cx.ty → TIok P t i) {t kt et nk id : Nat} {x : Operand} {kw : Kw} (hop : o.op = .range t x) (hx : vw.ev x = some (.one (.mp id))) {i : TI} (hi : lookN t cx.ty = some i) (hm : i.mapt = some (kt, et)) {r : RowOb} {ka va : Bool} (hr : vw.mw id = some (r, nk, ka, va)) (hne : Nat.beq id vw.nid = false)
  (h : (k { val := .one (.itp vw.nid id), rr := [id], re := .mk [⟨[some .i64], t, .lnil, true, .it id (mkLen r.l)⟩] } kw).holds sp G ρ I) (hg : Good sp cx.sm ρ kw) : Sound P sp ρ G I base cx vw o k kw := by
 refine ⟨_, kw, h, hg, .refl _, fun j a w hb hev hrd hwr hrr hfb K Q hK => ?_⟩
 obtain ⟨hr1, hr2⟩ := Vw.mw_some hr
 obtain ⟨s, hs, hok⟩ := hrr id (by simp) r hr1
 obtain ⟨g, h1, h2, h3, h4, h5, h6⟩ := hok.1.map hr2
 have hdx := mp_of hs (hev x (by simp [hop, Op.operands]) _ hx)
 have hx' : Ext w (w.alloc (.mapIter (some g) (r.l.R ρ).length #[] (r.l.R ρ).length)) := (Ext.refl w).alloc _
 have hid : id ≠ vw.nid := fun e => by rw [e] at hne; simp at hne
 have hden : (V.one (.itp vw.nid id)).den ρ (j.putL vw.nid [⟨some ⟨w.heap.size, 0, none⟩, g, 1, []⟩]) = some (.pointer (some ⟨w.heap.size, 0, none⟩)) := by
  have e1 : (j.putL vw.nid [⟨some ⟨w.heap.size, 0, none⟩, g, 1, []⟩]).s vw.nid = some ⟨some ⟨w.heap.size, 0, none⟩, g, 1, []⟩ := by simp [J.putL]
  have e2 : (j.putL vw.nid [⟨some ⟨w.heap.size, 0, none⟩, g, 1, []⟩]).s id = some s := by
   simp only [J.putL]
   split
   ·have : id - vw.nid ≠ 0 := by omega
    rw [List.getElem?_eq_none (by simp; omega)]
    exact hs
   ·exact hs
  show (C.itp vw.nid id).den ρ _ = _
  simp only [C.den, e1, e2, Option.bind_some, h1, if_true, SV.pv, Option.map_some]
 refine wp_val (w' := w.alloc (.mapIter (some g) (r.l.R ρ).length #[] (r.l.R ρ).length)) (v := .pointer (some ⟨w.heap.size, 0, none⟩)) ?_ (hK _ (j.putL vw.nid [⟨some ⟨w.heap.size, 0, none⟩, g, 1, []⟩]) _ hden (mk_one hx' (HdOk.row ⟨rfl, ⟨by simp [E.R], by simp [E.R]⟩, rfl, w.heap.size, _, rfl, Nat.le_refl _, heap_alloc_new _ _, ?_⟩ rfl) rfl rfl))
 ·simp [execOp, hop, hdx, SV.mv, h1, Instr.range, newObj, Sem.run_bind, Sem.run, run_underlying (hT _ _ (lookN_mem hi) |>.mapt _ _ hm), run_getMap h3]
 ·refine ⟨rfl, ?_, by simp [E.R], by simp [E.R]⟩
  simp [mkLen_I, E.R, idxs]
theorem snd_entry (hT : ∀ t i, (t, i) ∈ cx.ty → TIok P t i) {nk id mid : Nat} {x : Operand} {kw : Kw} (hop : o.op = .entry x) (hx : vw.ev x = some (.one (.itp id mid))) {q r : RowOb} {n : E} {ka va : Bool} (hq : vw.iw id = some (q, mid, n)) {sl iv : E} (hql : q.l = .lapp sl (.cons iv .nil)) (hr : vw.mw mid = some (r, nk, ka, va)) (hn : n.same (mkLen r.l) = true)
  (h : (k { val := .tup [(ka, rowCs r.l iv 0 (r.ks.take nk)), (va, rowCs r.l iv nk (r.ks.drop nk))], rr := [id, mid] } kw).holds sp G ρ I) (hg : Good sp cx.sm ρ kw) (hka : ka = false → nk = 1) (hva : va = false → (r.ks.drop nk).length = 1) (hnk : nk ≤ r.ks.length) : Sound P sp ρ G I base cx vw o k kw := by
 refine ⟨_, kw, h, hg, .refl _, OpOk.pure fun j a w _ hev _ hrr _ => ?_⟩
 obtain ⟨hq1, hq2⟩ := Vw.iw_some hq
 obtain ⟨hr1, hr2⟩ := Vw.mw_some hr
 obtain ⟨s, m, hs, hm', hsm, hv⟩ := itp_of (ρ := ρ) (hev x (by simp [hop, Op.operands]) _ hx)
 obtain ⟨s1, hs1, hok1⟩ := hrr id (by simp) q hq1
 rw [hs] at hs1; cases hs1
 obtain ⟨s2, hs2, hok2⟩ := hrr mid (by simp) r hr1
 rw [hm'] at hs2; cases hs2
 obtain ⟨g, h1, h2, h3, h4, h5, h6⟩ := hok2.1.map hr2
 have hd := hok1.1.2.1 (by rw [hq2]; rfl)
 obtain ⟨gi, ob, i1, i2, i3, i4⟩ := hd.at'
 unfold obOf at i4
 rw [hq2] at i4
 obtain ⟨hks, rfl, hnd, hin⟩ := i4
 rw [hsm] at h1; cases h1
 have hL : q.l.R ρ = sl.R ρ ++ [[iv.I ρ]] := by rw [hql]; rfl
 rw [hL] at hin i3
 have hiv := hin [iv.I ρ] (by simp)
 simp only [List.getD_cons_zero] at hiv
 rw [E.same_eq hn, mkLen_I] at hiv
 have hit : idxs (sl.R ρ ++ [[iv.I ρ]]) = idxs (sl.R ρ) ++ [(iv.I ρ).toNat] := by simp [idxs]
 rw [hit] at i3
 have i5 : w.heap[gi]? = some (.mapIter (some s.n) (n.I ρ).toNat ((idxs (sl.R ρ)).toArray.push (iv.I ρ).toNat) (n.I ρ).toNat) := by rw [i3]; simp
 obtain ⟨x0, hx0⟩ : ∃ x0, (r.l.R ρ)[(iv.I ρ).toNat]? = some x0 := ⟨_, List.getElem?_eq_getElem (by omega)⟩
 have hx0m : x0 ∈ r.l.R ρ := List.mem_of_getElem? hx0
 have hxin := h4.row x0 hx0m
 have hent : (entsV r.ks nk ka va 0 (r.l.R ρ))[(iv.I ρ).toNat]? = some (entV r.ks nk ka va (iv.I ρ).toNat x0) := by rw [entsV_get, hx0]; simp
 have hborn : ((entsV r.ks nk ka va 0 (r.l.R ρ)).toArray.toList.map (·.born)).Nodup := by
  have : ∀ (L : List (List Int)) (i : Nat), (entsV r.ks nk ka va i L).map (·.born) = List.range' i L.length := by
   intro L
   induction L with
   | nil => intro i; rfl
   | cons y L ih => intro i; simp only [entsV, List.map_cons, ih, entV, List.length_cons, List.range'_succ]
  simp only [this]
  exact List.nodup_range'
 have hnn : (n.I ρ).toNat = (r.l.R ρ).length := by rw [E.same_eq hn, mkLen_I]; simp
 have hrun := run_entry_at (P := P) w gi s.n (n.I ρ).toNat (idxs (sl.R ρ)).toArray (entsV r.ks nk ka va 0 (r.l.R ρ)).toArray (r.l.R ρ).length (entV r.ks nk ka va (iv.I ρ).toNat x0) (by rw [i5, hnn]; rfl) h3 (List.mem_of_getElem? hent) hborn
 refine ⟨.tuple #[(entV r.ks nk ka va (iv.I ρ).toNat x0).key, (entV r.ks nk ka va (iv.I ρ).toNat x0).val], ?_, ?_⟩
 ·have d1 : denL ρ j (rowCs r.l iv 0 (r.ks.take nk)) = some ((rowV r.ks x0).take nk) := by rw [rowCs_den, List.getD_eq_getElem?_getD, hx0]; simp only [Option.getD_some]; rw [valsR_take nk hxin]
  have d2 : denL ρ j (rowCs r.l iv nk (r.ks.drop nk)) = some ((rowV r.ks x0).drop nk) := by rw [rowCs_den, List.getD_eq_getElem?_getD, hx0]; simp only [Option.getD_some]; rw [valsR_row nk hxin]
  have one : ∀ (b : Bool) (cs : List C) (vals : List Value), denL ρ j cs = some vals → (b = false → cs.length = 1) → den0 ρ j (b, cs) = some (cellsV b vals) := by
   intro b cs vals hd hl
   cases b with
   | true => simp [den0, hd, cellsV]
   | false =>
     have := hl rfl
     match cs, this with
     | [c], _ =>
       simp only [denL] at hd
       cases hc : c.den ρ j with
       | none => rw [hc] at hd; cases hd
       | some v => rw [hc] at hd; cases hd; simp [den0, hc, cellsV]
  have p1 := one ka _ _ d1 (fun e => by rw [rowCs_length, List.length_take, hka e]; have := hka e; omega)
  have p2 := one va _ _ d2 (fun e => by rw [rowCs_length]; exact hva e)
  simp only [V.den, den0L, p1, p2, Option.map_some]
  rfl
 ·simp only [execOp, hop, hv, SV.pv, i1, Option.map_some, Sem.run_bind, hrun, Result.andThen_ok, Sem.run_pure]
end
end Go.Proofs.Ytghiofgomcihcaa
