import PyProof.Rows.All
import Wide.All
import OpenK.AllK
import Wide.FinOn
import PyProof.EqAt
import PyProof.EqKinds
import PyProof.TupleCall
import Open.SpecLaws
import KE.OsGo
import PySem.Challenge.RW_coldfrontrow_s01_answers
import HandS.ForSpec
import HandS.ExcInit
import HandS.ExcSuper
import HandS.ExcField
import HandS.ForMost
import HandS.Walk
import HandS.Zip
import HandS.Wide
import HandS.Style
import HandS.CallSlots
import HandS.TryOnly
set_option Elab.async false
set_option linter.all false
set_option maxRecDepth 100000
set_option maxHeartbeats 4000000
section
set_option autoImplicit false
set_option maxRecDepth 512
set_option maxHeartbeats 200000
/-! Plain mathematics, part A: fractions in lowest terms, and how large they get. No program in sight. -/
namespace Cf
open Kqk1

/-! ### a fraction's two numbers -/
theorem mk_num (n : Int) (d : Nat) (hd : 0 < d) : (mkRat n d).num = n / ((Nat.gcd n.natAbs d : Nat) : Int) := by
  rw [Rat.num_mkRat, if_neg (by omega), Nat.gcd_comm]
theorem mk_den (n : Int) (d : Nat) (hd : 0 < d) : (mkRat n d).den = d / Nat.gcd n.natAbs d := by
  rw [Rat.den_mkRat, if_neg (by omega), Nat.gcd_comm]
theorem mk_den_dvd (n : Int) (d : Nat) (hd : 0 < d) : (mkRat n d).den ∣ d := by
  rw [mk_den n d hd]
  exact Nat.div_dvd_of_dvd (Nat.gcd_dvd_right ..)
theorem add_mk (q r : Rat) : q + r = mkRat (q.num * (r.den : Int) + r.num * (q.den : Int)) (q.den * r.den) := Rat.add_def' q r
theorem mul_mk (q : Rat) (f : Int) : q * (f : Rat) = mkRat (q.num * f) q.den := by
  rw [Rat.mul_def', Rat.num_intCast, Rat.den_intCast, Nat.mul_one]
theorem div_mk (q : Rat) (n : Nat) (hn : 0 < n) : q / (n : Rat) = mkRat q.num (q.den * n) := by
  have h0 : (n : Rat) ≠ 0 := by
    intro h
    have := Rat.natCast_pos.mpr hn
    grind
  have h1 : q = mkRat q.num q.den := (Rat.mkRat_self q).symm
  have hd : (q.den : Rat) ≠ 0 := by
    intro h
    have := Rat.natCast_pos.mpr q.den_pos
    grind
  rw [Rat.mkRat_eq_div, Rat.natCast_mul, Rat.div_def, Rat.div_def, Rat.inv_mul_rev]
  conv => lhs; rw [h1, Rat.mkRat_eq_div, Rat.div_def]
  grind
theorem lt_mk (q r : Rat) : (q < r) ↔ q.num * (r.den : Int) < r.num * (q.den : Int) := Rat.lt_iff q r
theorem whole_num (n : Int) : ((n : Rat)).num = n := Rat.num_intCast n
theorem whole_den (n : Int) : ((n : Rat)).den = 1 := Rat.den_intCast n

/-! ### bounds -/
/-- a multiple of the denominator and a bound of the size -/
structure Bd (L M : Nat) (q : Rat) : Prop where
  dvd : q.den ∣ L
  lo : -(M : Rat) ≤ q
  hi : q ≤ (M : Rat)
/-- small enough for the machine -/
structure Sm (q : Rat) : Prop where
  num : q.num.natAbs < 2 ^ 4000
  den : q.den < 2 ^ 4000
theorem Bd.num_le {L M : Nat} {q : Rat} (h : Bd L M q) : q.num.natAbs ≤ M * q.den := by
  have h1 := h.hi
  have h2 := h.lo
  rw [Rat.le_iff] at h1 h2
  have e1 : ((M : Rat)).num = (M : Int) := Rat.num_natCast M
  have e2 : ((M : Rat)).den = 1 := Rat.den_natCast M
  rw [e1, e2] at h1
  rw [Rat.neg_num, Rat.neg_den, e1, e2] at h2
  have e3 : ((M * q.den : Nat) : Int) = (M : Int) * (q.den : Int) := by push_cast; rfl
  have e4 : -(M : Int) * (q.den : Int) = -((M : Int) * (q.den : Int)) := Int.neg_mul ..
  omega
theorem pow_a : (2 : Nat) ^ 900 * 2 ^ 3000 < 2 ^ 4000 := by decide +kernel
theorem pow_b : (2 : Nat) ^ 3000 < 2 ^ 4000 := by decide +kernel
theorem Bd.sm {L M : Nat} {q : Rat} (h : Bd L M q) (h0 : 0 < L) (hL : L < 2 ^ 3000) (hM : M < 2 ^ 900) : Sm q := by
  have hd : q.den ≤ L := Nat.le_of_dvd h0 h.dvd
  exact ⟨Nat.lt_of_le_of_lt (Nat.le_trans h.num_le (Nat.mul_le_mul (Nat.le_of_lt hM) (Nat.le_of_lt (Nat.lt_of_le_of_lt hd hL)))) pow_a,
    Nat.lt_trans (Nat.lt_of_le_of_lt hd hL) pow_b⟩
theorem Bd.mono {L L' M M' : Nat} {q : Rat} (h : Bd L M q) (hL : L ∣ L') (hM : M ≤ M') : Bd L' M' q := by
  have : (M : Rat) ≤ (M' : Rat) := Rat.natCast_le_natCast.mpr hM
  have h1 := h.lo
  have h2 := h.hi
  exact ⟨Nat.dvd_trans h.dvd hL, by grind, by grind⟩
theorem over {L : Nat} {q : Rat} (h0 : 0 < L) (h : q.den ∣ L) : ∃ n : Int, q = mkRat n L := by
  obtain ⟨k, rfl⟩ := h
  have hk : k ≠ 0 := by
    rintro rfl
    simp at h0
  refine ⟨q.num * k, ?_⟩
  rw [Rat.mkRat_mul_right hk, Rat.mkRat_self]
theorem add_dvd {L : Nat} {q r : Rat} (h0 : 0 < L) (hq : q.den ∣ L) (hr : r.den ∣ L) : (q + r).den ∣ L := by
  obtain ⟨n, rfl⟩ := over h0 hq
  obtain ⟨m, rfl⟩ := over h0 hr
  rw [Rat.mkRat_add_mkRat _ _ (by omega) (by omega), ← Int.add_mul, Rat.mkRat_mul_right (by omega)]
  exact mk_den_dvd _ _ h0
theorem mul_dvd {L : Nat} {q : Rat} (f : Int) (hq : q.den ∣ L) : (q * (f : Rat)).den ∣ L := by
  rw [mul_mk]
  exact Nat.dvd_trans (mk_den_dvd _ _ q.den_pos) hq
theorem div_dvd {L : Nat} {q : Rat} {n : Nat} (hn : 0 < n) (hq : q.den ∣ L) : (q / (n : Rat)).den ∣ L * n := by
  rw [div_mk q n hn]
  exact Nat.dvd_trans (mk_den_dvd _ _ (Nat.mul_pos q.den_pos hn)) (Nat.mul_dvd_mul_right hq n)
theorem Bd.add {L M N : Nat} {q r : Rat} (h0 : 0 < L) (hq : Bd L M q) (hr : Bd L N r) : Bd L (M + N) (q + r) := by
  have e : ((M + N : Nat) : Rat) = (M : Rat) + (N : Rat) := Rat.natCast_add ..
  have := hq.lo
  have := hq.hi
  have := hr.lo
  have := hr.hi
  exact ⟨add_dvd h0 hq.dvd hr.dvd, by grind, by grind⟩
theorem Bd.mul {L M : Nat} {q : Rat} (k : Nat) (hq : Bd L M q) : Bd L (M * k) (q * ((k : Int) : Rat)) := by
  have e : ((M * k : Nat) : Rat) = (M : Rat) * (k : Rat) := Rat.natCast_mul ..
  have e2 : (((k : Int)) : Rat) = (k : Rat) := rfl
  have hk : (0 : Rat) ≤ (k : Rat) := Rat.natCast_nonneg
  refine ⟨mul_dvd _ hq.dvd, ?_, ?_⟩
  · have := Rat.mul_le_mul_of_nonneg_right hq.lo hk
    rw [e, e2]
    grind
  · have := Rat.mul_le_mul_of_nonneg_right hq.hi hk
    rw [e, e2]
    grind
theorem div_le {a b c : Rat} (hb : 0 < b) (h : a ≤ c * b) : a / b ≤ c := by
  have hb0 : b ≠ 0 := by grind
  refine Rat.le_of_mul_le_mul_right (c := b) ?_ hb
  rw [Rat.div_mul_cancel hb0]
  exact h
theorem le_div {a b c : Rat} (hb : 0 < b) (h : c * b ≤ a) : c ≤ a / b := by
  have hb0 : b ≠ 0 := by grind
  refine Rat.le_of_mul_le_mul_right (c := b) ?_ hb
  rw [Rat.div_mul_cancel hb0]
  exact h
theorem Bd.div {L M n : Nat} {q : Rat} (hn : 0 < n) (hq : Bd L (M * n) q) : Bd (L * n) M (q / (n : Rat)) := by
  have e : ((M * n : Nat) : Rat) = (M : Rat) * (n : Rat) := Rat.natCast_mul ..
  have hk : (0 : Rat) < (n : Rat) := Rat.natCast_pos.mpr hn
  have h1 := hq.lo
  have h2 := hq.hi
  rw [e] at h1 h2
  exact ⟨div_dvd hn hq.dvd, le_div hk (by grind), div_le hk h2⟩
theorem Bd.of_le {M : Nat} {q : Rat} (h0 : -(M : Rat) ≤ q) (h1 : q ≤ (M : Rat)) : Bd q.den M q := ⟨Nat.dvd_refl _, h0, h1⟩
theorem Bd.whole (n : Nat) {M : Nat} (h : n ≤ M) : Bd 1 M (n : Rat) := by
  have h1 : (n : Rat) ≤ (M : Rat) := Rat.natCast_le_natCast.mpr h
  have h2 : (0 : Rat) ≤ (n : Rat) := Rat.natCast_nonneg
  refine ⟨?_, by grind, h1⟩
  rw [Rat.den_natCast] <;> exact Nat.dvd_refl _
theorem Bd.zero (L M : Nat) : Bd L M 0 := by
  have h2 : (0 : Rat) ≤ (M : Rat) := Rat.natCast_nonneg
  exact ⟨⟨L, by simp⟩, by grind, h2⟩
end Cf

end
section
set_option autoImplicit false
set_option maxRecDepth 512
set_option maxHeartbeats 200000
/-! Plain mathematics, part B: rows of cells, time steps, sums, and how large all of it gets. -/
namespace Cf
open Kqk1

/-! ### rows and steps -/
def moved (inj : Rat) (cells : List Cell) : List Cell := (List.zip cells (inj :: cells.map Cell.water)).map fun p => { p.1 with water := p.2 }
theorem advanced_eq (inj : Rat) (cells : List Cell) : advanced inj cells = (moved inj cells).map equilibrated := by
  unfold advanced moved
  rw [List.map_map]
  rfl
theorem zip_cut (f : Cell → Rat) : ∀ (l : List Cell) (a : Rat), List.zip l (a :: l.dropLast.map f) = List.zip l (a :: l.map f)
  | [], _ => rfl
  | [c], a => rfl
  | c :: d :: t, a => by
    have ih := zip_cut f (d :: t) (f c)
    show (c, a) :: List.zip (d :: t) (f c :: ((d :: t).dropLast.map f)) = (c, a) :: List.zip (d :: t) (f c :: (d :: t).map f)
    rw [ih]
theorem moved_len (inj : Rat) (cells : List Cell) : (moved inj cells).length = cells.length := by
  unfold moved
  simp [List.length_zip]
theorem advanced_len (inj : Rat) (cells : List Cell) : (advanced inj cells).length = cells.length := by
  rw [advanced_eq, List.length_map, moved_len]
/-- the row behind k steps -/
def advN (inj : Rat) : Nat → List Cell → List Cell
  | 0, l => l
  | k + 1, l => advanced inj (advN inj k l)
theorem advN_front (inj : Rat) : ∀ (k : Nat) (l : List Cell), advN inj (k + 1) l = advN inj k (advanced inj l)
  | 0, _ => rfl
  | k + 1, l => by
    show advanced inj (advN inj (k + 1) l) = advanced inj (advN inj k (advanced inj l))
    rw [advN_front inj k l]
theorem advN_len (inj : Rat) : ∀ (k : Nat) (l : List Cell), (advN inj k l).length = l.length
  | 0, _ => rfl
  | k + 1, l => by
    show (advanced inj (advN inj k l)).length = l.length
    rw [advanced_len, advN_len inj k l]
/-- what k steps produce -/
def outs (inj : Rat) (k : Nat) (l : List Cell) : List Rat := (List.range k).map fun i => outlet (advN inj i l)
theorem outs_succ (inj : Rat) (k : Nat) (l : List Cell) : outs inj (k + 1) l = outs inj k l ++ [outlet (advN inj k l)] := by
  unfold outs
  rw [List.range_succ, List.map_append]
  rfl
theorem outs_len (inj : Rat) (k : Nat) (l : List Cell) : (outs inj k l).length = k := by
  unfold outs
  simp
theorem outs_front (inj : Rat) (k : Nat) (l : List Cell) : outs inj (k + 1) l = outlet l :: outs inj k (advanced inj l) := by
  unfold outs
  rw [List.range_succ_eq_map, List.map_cons, List.map_map]
  refine congrArg (List.cons _) (List.map_congr_left fun i _ => ?_)
  show outlet (advN inj (i + 1) l) = _
  rw [advN_front]
def sumR (l : List Rat) : Rat := l.foldl (fun x y => x + y) 0
theorem fold_add : ∀ (l : List Rat) (a : Rat), l.foldl (fun x y => x + y) a = a + sumR l
  | [], a => by
    show a = a + 0
    rw [Rat.add_zero]
  | x :: l, a => by
    show l.foldl (fun x y => x + y) (a + x) = a + l.foldl (fun x y => x + y) (0 + x)
    rw [fold_add l (a + x), fold_add l (0 + x)]
    grind
theorem sumR_nil : sumR [] = 0 := rfl
theorem sumR_cons (x : Rat) (l : List Rat) : sumR (x :: l) = x + sumR l := by
  show l.foldl (fun x y => x + y) (0 + x) = x + sumR l
  rw [fold_add l (0 + x), Rat.zero_add]
theorem sumR_snoc (l : List Rat) (x : Rat) : sumR (l ++ [x]) = sumR l + x := by
  unfold sumR
  rw [List.foldl_append]
  rfl
theorem many_cells : ∀ (k : Nat) (r : Reservoir), (advanceMany k r).cells = advN r.injection k r.cells
  | 0, _ => rfl
  | k + 1, r => by
    show (advanceMany k (advance r)).cells = _
    rw [many_cells k (advance r), advN_front]
    rfl
theorem many_inj : ∀ (k : Nat) (r : Reservoir), (advanceMany k r).injection = r.injection
  | 0, _ => rfl
  | k + 1, r => by
    show (advanceMany k (advance r)).injection = _
    rw [many_inj k (advance r)]
    rfl
theorem many_saved : ∀ (k : Nat) (r : Reservoir), (advanceMany k r).saved = r.saved
  | 0, _ => rfl
  | k + 1, r => by
    show (advanceMany k (advance r)).saved = _
    rw [many_saved k (advance r)]
    rfl
theorem many_count : ∀ (k : Nat) (r : Reservoir), (advanceMany k r).producedCount = r.producedCount + k
  | 0, _ => rfl
  | k + 1, r => by
    show (advanceMany k (advance r)).producedCount = _
    rw [many_count k (advance r)]
    show r.producedCount + 1 + k = _
    omega
theorem many_isum : ∀ (k : Nat) (r : Reservoir), (advanceMany k r).injectedSum = r.injectedSum + r.injection * ((k : Int) : Rat)
  | 0, r => by
    show r.injectedSum = r.injectedSum + r.injection * 0
    grind
  | k + 1, r => by
    show (advanceMany k (advance r)).injectedSum = _
    rw [many_isum k (advance r)]
    show r.injectedSum + r.injection + r.injection * ((k : Int) : Rat) = _
    have e : (((k + 1 : Nat) : Int) : Rat) = ((k : Int) : Rat) + 1 := by
      rw [Int.natCast_add, Rat.intCast_add]
      rfl
    rw [e]
    grind
theorem many_psum : ∀ (k : Nat) (r : Reservoir), (advanceMany k r).producedSum = r.producedSum + sumR (outs r.injection k r.cells)
  | 0, r => by
    show r.producedSum = r.producedSum + 0
    grind
  | k + 1, r => by
    show (advanceMany k (advance r)).producedSum = _
    rw [many_psum k (advance r), outs_front, sumR_cons]
    show r.producedSum + outlet r.cells + sumR (outs r.injection k (advanced r.injection r.cells)) = _
    grind
theorem forecast_outs : ∀ (k : Nat) (r : Reservoir), forecast k r = outs r.injection k r.cells
  | 0, _ => rfl
  | k + 1, r => by
    show outlet r.cells :: forecast k (advance r) = _
    rw [forecast_outs k (advance r), outs_front]
    rfl

/-! ### the limits of a state -/
/-- a temperature of the state -/
structure Tm (q : Rat) : Prop where
  lo : -((300 : Nat) : Rat) ≤ q
  hi : q ≤ ((300 : Nat) : Rat)
  den : q.den ≤ 10 ^ 40
structure CellOk (c : Cell) : Prop where
  cap1 : 1 ≤ c.rockCapacity
  cap2 : c.rockCapacity ≤ 20
  rock : Tm c.rock
  water : Tm c.water
structure RowOk (l : List Cell) : Prop where
  one : 1 ≤ l.length
  most : l.length ≤ 8
  all : ∀ c ∈ l, CellOk c
/-- every temperature over one denominator and between the bounds; the capacities -/
structure CellBd (L : Nat) (c : Cell) : Prop where
  cap1 : 1 ≤ c.rockCapacity
  cap2 : c.rockCapacity ≤ 20
  rock : Bd L 300 c.rock
  water : Bd L 300 c.water
def RowBd (L : Nat) (l : List Cell) : Prop := ∀ c ∈ l, CellBd L c
theorem CellBd.mono {L L' : Nat} {c : Cell} (h : CellBd L c) (d : L ∣ L') : CellBd L' c := ⟨h.cap1, h.cap2, h.rock.mono d (Nat.le_refl _), h.water.mono d (Nat.le_refl _)⟩
theorem RowBd.mono {L L' : Nat} {l : List Cell} (h : RowBd L l) (d : L ∣ L') : RowBd L' l := fun c hc => (h c hc).mono d
/-- the least common multiple of 2 to 21 -/
def lam : Nat := 232792560
theorem cap_dvd {k : Nat} (h1 : 1 ≤ k) (h2 : k ≤ 20) : k + 1 ∣ lam := by
  have : ∀ k : Fin 21, 1 ≤ k.val → k.val + 1 ∣ lam := by decide
  exact this ⟨k, by omega⟩ h1
theorem eq_temp {L : Nat} {c : Cell} (h0 : 0 < L) (h : CellBd L c) : Bd (L * (c.rockCapacity + 1)) 300 ((c.rock * ((c.rockCapacity : Int) : Rat) + c.water) / ((c.rockCapacity + 1 : Nat) : Rat)) := by
  refine Bd.div (by omega) ?_
  have := (h.rock.mul c.rockCapacity).add h0 h.water
  rw [show 300 * (c.rockCapacity + 1) = 300 * c.rockCapacity + 300 by omega]
  exact this
theorem equilibrated_eq (c : Cell) : equilibrated c = ⟨c.rockCapacity, (c.rock * ((c.rockCapacity : Int) : Rat) + c.water) / ((c.rockCapacity + 1 : Nat) : Rat), (c.rock * ((c.rockCapacity : Int) : Rat) + c.water) / ((c.rockCapacity + 1 : Nat) : Rat)⟩ := by
  unfold equilibrated
  rw [Rat.mul_comm c.rock]
  rfl
theorem eq_bd {L : Nat} {c : Cell} (h0 : 0 < L) (h : CellBd L c) : CellBd (L * lam) (equilibrated c) := by
  have q := (eq_temp h0 h).mono (Nat.mul_dvd_mul_left L (cap_dvd h.cap1 h.cap2)) (Nat.le_refl _)
  rw [equilibrated_eq]
  exact ⟨h.cap1, h.cap2, q, q⟩
theorem moved_mem {inj : Rat} {l : List Cell} {c : Cell} (h : c ∈ moved inj l) : ∃ d ∈ l, ∃ w, (w = inj ∨ ∃ e ∈ l, w = e.water) ∧ c = { d with water := w } := by
  unfold moved at h
  obtain ⟨p, hp, rfl⟩ := List.mem_map.mp h
  obtain ⟨a, b⟩ := p
  have h1 := (List.of_mem_zip hp).1
  have h2 := (List.of_mem_zip hp).2
  refine ⟨a, h1, b, ?_, rfl⟩
  rcases List.mem_cons.mp h2 with e | e
  · exact .inl e
  · obtain ⟨x, hx, ex⟩ := List.mem_map.mp e
    exact .inr ⟨x, hx, ex.symm⟩
theorem moved_bd {L : Nat} {inj : Rat} {l : List Cell} (hi : Bd L 300 inj) (h : RowBd L l) : RowBd L (moved inj l) := by
  intro c hc
  obtain ⟨d, hd, w, hw, rfl⟩ := moved_mem hc
  have q := h d hd
  refine ⟨q.cap1, q.cap2, q.rock, ?_⟩
  rcases hw with rfl | ⟨e, he, rfl⟩
  · exact hi
  · exact (h e he).water
theorem map_eq_bd {L : Nat} {l : List Cell} (h0 : 0 < L) (h : RowBd L l) : RowBd (L * lam) (l.map equilibrated) := by
  intro c hc
  obtain ⟨d, hd, rfl⟩ := List.mem_map.mp hc
  exact eq_bd h0 (h d hd)
theorem advanced_bd {L : Nat} {inj : Rat} {l : List Cell} (h0 : 0 < L) (hi : Bd L 300 inj) (h : RowBd L l) : RowBd (L * lam) (advanced inj l) := by
  rw [advanced_eq]
  exact map_eq_bd h0 (moved_bd hi h)
theorem lam_pos : 0 < lam := by decide
theorem advN_bd {L : Nat} {inj : Rat} {l : List Cell} (h0 : 0 < L) (hi : Bd L 300 inj) (h : RowBd L l) : ∀ k, RowBd (L * lam ^ k) (advN inj k l)
  | 0 => by
    rw [Nat.pow_zero, Nat.mul_one]
    exact h
  | k + 1 => by
    have e : L * lam ^ (k + 1) = L * lam ^ k * lam := by rw [Nat.pow_succ, Nat.mul_assoc]
    rw [e]
    exact advanced_bd (Nat.mul_pos h0 (Nat.pow_pos lam_pos)) (hi.mono ⟨_, rfl⟩ (Nat.le_refl _)) (advN_bd h0 hi h k)
theorem outlet_bd {L : Nat} {l : List Cell} (h : RowBd L l) : Bd L 300 (outlet l) := by
  unfold outlet
  cases e : l.getLast? with
  | none => exact Bd.zero _ _
  | some c => exact (h c (List.mem_of_getLast? e)).water
/-- one denominator for all of a row -/
def den1 : List Cell → Nat
  | [] => 1
  | c :: l => c.rock.den * c.water.den * den1 l
theorem den1_pos : ∀ l, 0 < den1 l
  | [] => Nat.one_pos
  | c :: l => Nat.mul_pos (Nat.mul_pos c.rock.den_pos c.water.den_pos) (den1_pos l)
theorem den1_bd : ∀ l : List Cell, (∀ c ∈ l, CellOk c) → RowBd (den1 l) l
  | [], _ => fun c hc => absurd hc (by simp)
  | d :: l, h => by
    intro c hc
    have ih := den1_bd l fun c hc => h c (List.mem_cons_of_mem _ hc)
    rcases List.mem_cons.mp hc with rfl | hc
    · have q := h c (List.mem_cons_self ..)
      refine ⟨q.cap1, q.cap2, (Bd.of_le (M := 300) q.rock.lo q.rock.hi).mono ?_ (Nat.le_refl _), (Bd.of_le (M := 300) q.water.lo q.water.hi).mono ?_ (Nat.le_refl _)⟩
      · exact Nat.dvd_trans ⟨c.water.den, rfl⟩ ⟨den1 l, rfl⟩
      · exact Nat.dvd_trans ⟨c.rock.den, Nat.mul_comm ..⟩ ⟨den1 l, rfl⟩
    · exact (ih c hc).mono ⟨d.rock.den * d.water.den, Nat.mul_comm ..⟩
theorem den1_le : ∀ l : List Cell, (∀ c ∈ l, CellOk c) → den1 l ≤ (10 ^ 80) ^ l.length
  | [], _ => Nat.le_refl _
  | d :: l, h => by
    have q := h d (List.mem_cons_self ..)
    have ih := den1_le l fun c hc => h c (List.mem_cons_of_mem _ hc)
    have a := Nat.mul_le_mul (Nat.mul_le_mul q.rock.den q.water.den) ih
    have e : (10 ^ 40 * 10 ^ 40 : Nat) * (10 ^ 80) ^ l.length = (10 ^ 80) ^ (d :: l).length := by
      have e2 : (10 ^ 40 * 10 ^ 40 : Nat) = 10 ^ 80 := by decide +kernel
      rw [List.length_cons, Nat.pow_succ ((10 : Nat) ^ 80) l.length, e2]
      exact Nat.mul_comm _ _
    rw [← e]
    exact a
theorem row_den {l : List Cell} (h : RowOk l) : den1 l ≤ 10 ^ 640 := by
  refine Nat.le_trans (den1_le l h.all) ?_
  have e : (10 : Nat) ^ 640 = (10 ^ 80) ^ 8 := by rw [← Nat.pow_mul]
  rw [e]
  exact Nat.pow_le_pow_right (by decide) h.most
theorem big_a : 10 ^ 640 * lam ^ 20 * 10 ^ 40 * 21 < 2 ^ 3000 := by decide +kernel
theorem row_lt {l : List Cell} (h : RowOk l) {k : Nat} (hk : k ≤ 20) : den1 l * lam ^ k * 10 ^ 40 * 21 < 2 ^ 3000 := by
  refine Nat.lt_of_le_of_lt ?_ big_a
  exact Nat.mul_le_mul_right _ (Nat.mul_le_mul_right _ (Nat.mul_le_mul (row_den h) (Nat.pow_le_pow_right lam_pos hk)))
theorem le_mul_pos {a b : Nat} (h : 0 < b) : a ≤ a * b := Nat.le_mul_of_pos_right a h

/-! ### what the machine is asked of a cell -/
structure CellSm (c : Cell) : Prop where
  cap : c.rockCapacity ≤ 20
  rock : Sm c.rock
  water : Sm c.water
  prod : Sm (c.rock * ((c.rockCapacity : Int) : Rat))
  sum : Sm (c.rock * ((c.rockCapacity : Int) : Rat) + c.water)
def RowSm (l : List Cell) : Prop := ∀ c ∈ l, CellSm c
theorem small_num {M : Nat} (h : M ≤ 2 ^ 40) : M < 2 ^ 900 := Nat.lt_of_le_of_lt h (by decide +kernel)
theorem CellBd.sm {L : Nat} {c : Cell} (h : CellBd L c) (h0 : 0 < L) (hL : L < 2 ^ 3000) : CellSm c := by
  have hc := h.cap2
  have p := h.rock.mul c.rockCapacity
  exact ⟨h.cap2, h.rock.sm h0 hL (small_num (by decide)), h.water.sm h0 hL (small_num (by decide)), p.sm h0 hL (small_num (by omega)), (p.add h0 h.water).sm h0 hL (small_num (by omega))⟩
theorem RowBd.sm {L : Nat} {l : List Cell} (h : RowBd L l) (h0 : 0 < L) (hL : L < 2 ^ 3000) : RowSm l := fun c hc => (h c hc).sm h0 hL
/-- the steps of a state's row -/
structure StepsSm (inj : Rat) (k : Nat) (l : List Cell) : Prop where
  one : 1 ≤ l.length
  ent : Sm inj
  rows : ∀ i, i < k → RowSm (moved inj (advN inj i l))
theorem inj_bd {n : Nat} (L : Nat) (h : n ≤ 300) : Bd L 300 (n : Rat) := (Bd.whole n h).mono (Nat.one_dvd _) (Nat.le_refl _)
theorem row_pos (l : List Cell) (k : Nat) : 0 < den1 l * lam ^ k := Nat.mul_pos (den1_pos l) (Nat.pow_pos lam_pos)
theorem row_lt0 {l : List Cell} (h : RowOk l) {k : Nat} (hk : k ≤ 20) : den1 l * lam ^ k < 2 ^ 3000 := by
  refine Nat.lt_of_le_of_lt (Nat.le_trans (le_mul_pos (b := 10 ^ 40) (by decide)) (le_mul_pos (b := 21) (by decide))) (row_lt h hk)
theorem steps_sm {l : List Cell} {n k : Nat} (h : RowOk l) (hn : n ≤ 300) (hk : k ≤ 20) : StepsSm (n : Rat) k l := by
  have b := den1_bd l h.all
  have p0 := den1_pos l
  refine ⟨h.one, (inj_bd 1 hn).sm (by decide) (by decide +kernel) (small_num (by decide)), fun i hi => ?_⟩
  have q := advN_bd p0 (inj_bd _ hn) b i
  exact (moved_bd (inj_bd _ hn) q).sm (row_pos l i) (row_lt0 h (by omega))
theorem outs_mem {inj : Rat} {k : Nat} {l : List Cell} {q : Rat} (h : q ∈ outs inj k l) : ∃ i, i < k ∧ q = outlet (advN inj i l) := by
  unfold outs at h
  obtain ⟨i, hi, rfl⟩ := List.mem_map.mp h
  exact ⟨i, List.mem_range.mp hi, rfl⟩
theorem outs_bd {l : List Cell} {n k : Nat} (h : RowOk l) (hn : n ≤ 300) : ∀ q ∈ outs (n : Rat) k l, Bd (den1 l * lam ^ k) 300 q := by
  intro q hq
  obtain ⟨i, hi, rfl⟩ := outs_mem hq
  have b := advN_bd (den1_pos l) (inj_bd _ hn) (den1_bd l h.all) i
  exact (outlet_bd b).mono (Nat.mul_dvd_mul_left _ (Nat.pow_dvd_pow _ (by omega))) (Nat.le_refl _)
/-- sums of bounded numbers -/
theorem sum_bd {L M : Nat} (h0 : 0 < L) : ∀ l : List Rat, (∀ q ∈ l, Bd L M q) → Bd L (M * l.length) (sumR l)
  | [], _ => Bd.zero _ _
  | x :: l, h => by
    rw [sumR_cons, List.length_cons, Nat.mul_add, Nat.mul_one, Nat.add_comm]
    exact (h x (List.mem_cons_self ..)).add h0 (sum_bd h0 l fun q hq => h q (List.mem_cons_of_mem _ hq))
/-- what the machine is asked of a sum -/
structure SumSm (l : List Rat) : Prop where
  each : ∀ q ∈ l, Sm q
  part : ∀ i, i ≤ l.length → Sm (sumR (l.take i))
theorem SumSm.of {L M : Nat} {l : List Rat} (h0 : 0 < L) (hL : L < 2 ^ 3000) (h : ∀ q ∈ l, Bd L M q) (hM : M * l.length ≤ 2 ^ 40) (hM2 : M ≤ 2 ^ 40) : SumSm l := by
  refine ⟨fun q hq => (h q hq).sm h0 hL (small_num hM2), fun i hi => ?_⟩
  have b := sum_bd h0 (l.take i) fun q hq => h q (List.mem_of_mem_take hq)
  have e : (l.take i).length ≤ l.length := by
    rw [List.length_take]
    omega
  exact (b.mono (Nat.dvd_refl _) (Nat.mul_le_mul_left M e)).sm h0 hL (small_num hM)
end Cf

end
section
set_option autoImplicit false
set_option maxRecDepth 512
set_option maxHeartbeats 200000
/-! Plain mathematics, part C: one call on a reservoir: what it gives, in the program's order of things. -/
namespace Cf
open Kqk1 (Cell Reservoir Request Result)

/-! ### greatest and smallest -/
theorem fold_max : ∀ (l : List Rat) (a : Rat), let g := l.foldl (fun x y => if x < y then y else x) a
    (g = a ∨ g ∈ l) ∧ a ≤ g ∧ ∀ x ∈ l, x ≤ g
  | [], a => ⟨.inl rfl, Rat.le_refl, fun x hx => absurd hx (by simp)⟩
  | b :: l, a => by
    have ih := fold_max l (if a < b then b else a)
    intro g
    have hg : g = l.foldl (fun x y => if x < y then y else x) (if a < b then b else a) := rfl
    rw [← hg] at ih
    obtain ⟨h1, h2, h3⟩ := ih
    by_cases hab : a < b
    · rw [if_pos hab] at h1 h2
      refine ⟨.inr ?_, by grind, fun x hx => ?_⟩
      · rcases h1 with h1 | h1
        · rw [h1]; exact List.mem_cons_self ..
        · exact List.mem_cons_of_mem _ h1
      · rcases List.mem_cons.mp hx with rfl | hx
        · exact h2
        · exact h3 x hx
    · rw [if_neg hab] at h1 h2
      refine ⟨?_, h2, fun x hx => ?_⟩
      · rcases h1 with h1 | h1
        · exact .inl h1
        · exact .inr (List.mem_cons_of_mem _ h1)
      · rcases List.mem_cons.mp hx with rfl | hx
        · have := Rat.not_lt.mp hab; grind
        · exact h3 x hx
theorem fold_min : ∀ (l : List Rat) (a : Rat), let g := l.foldl (fun x y => if y < x then y else x) a
    (g = a ∨ g ∈ l) ∧ g ≤ a ∧ ∀ x ∈ l, g ≤ x
  | [], a => ⟨.inl rfl, Rat.le_refl, fun x hx => absurd hx (by simp)⟩
  | b :: l, a => by
    have ih := fold_min l (if b < a then b else a)
    intro g
    have hg : g = l.foldl (fun x y => if y < x then y else x) (if b < a then b else a) := rfl
    rw [← hg] at ih
    obtain ⟨h1, h2, h3⟩ := ih
    by_cases hab : b < a
    · rw [if_pos hab] at h1 h2
      refine ⟨.inr ?_, by grind, fun x hx => ?_⟩
      · rcases h1 with h1 | h1
        · rw [h1]; exact List.mem_cons_self ..
        · exact List.mem_cons_of_mem _ h1
      · rcases List.mem_cons.mp hx with rfl | hx
        · exact h2
        · exact h3 x hx
    · rw [if_neg hab] at h1 h2
      refine ⟨?_, h2, fun x hx => ?_⟩
      · rcases h1 with h1 | h1
        · exact .inl h1
        · exact .inr (List.mem_cons_of_mem _ h1)
      · rcases List.mem_cons.mp hx with rfl | hx
        · have := Rat.not_lt.mp hab; grind
        · exact h3 x hx
theorem headD_mem {l : List Rat} (h : l ≠ []) : l.headD 0 ∈ l := by
  cases l with
  | nil => exact absurd rfl h
  | cons a l => exact List.mem_cons_self ..
theorem greatest_spec {l : List Rat} (h : l ≠ []) : Kqk1.greatest l ∈ l ∧ ∀ x ∈ l, x ≤ Kqk1.greatest l := by
  have q := fold_max l (l.headD 0)
  refine ⟨?_, q.2.2⟩
  rcases q.1 with e | e
  · show l.foldl _ _ ∈ l
    rw [e]
    exact headD_mem h
  · exact e
theorem smallest_spec {l : List Rat} (h : l ≠ []) : Kqk1.smallest l ∈ l ∧ ∀ x ∈ l, Kqk1.smallest l ≤ x := by
  have q := fold_min l (l.headD 0)
  refine ⟨?_, q.2.2⟩
  rcases q.1 with e | e
  · show l.foldl _ _ ∈ l
    rw [e]
    exact headD_mem h
  · exact e
/-- all temperatures, in the program's order -/
def temps (l : List Cell) : List Rat := l.map Cell.rock ++ l.map Cell.water
theorem mem_temps {l : List Cell} {q : Rat} : q ∈ temps l ↔ q ∈ Kqk1.temperatures l := by
  unfold temps Kqk1.temperatures
  simp only [List.mem_append, List.mem_map, List.mem_flatMap, List.mem_cons, List.not_mem_nil, or_false]
  constructor
  · rintro (⟨c, hc, rfl⟩ | ⟨c, hc, rfl⟩)
    · exact ⟨c, hc, .inl rfl⟩
    · exact ⟨c, hc, .inr rfl⟩
  · rintro ⟨c, hc, rfl | rfl⟩
    · exact .inl ⟨c, hc, rfl⟩
    · exact .inr ⟨c, hc, rfl⟩
theorem temps_ne {l : List Cell} (h : 1 ≤ l.length) : temps l ≠ [] ∧ Kqk1.temperatures l ≠ [] := by
  cases l with
  | nil => simp at h
  | cons c l => exact ⟨by simp [temps], by simp [Kqk1.temperatures]⟩
theorem greatest_temps {l : List Cell} (h : 1 ≤ l.length) : Kqk1.greatest (temps l) = Kqk1.greatest (Kqk1.temperatures l) := by
  obtain ⟨h1, h2⟩ := temps_ne h
  obtain ⟨a1, a2⟩ := greatest_spec h1
  obtain ⟨b1, b2⟩ := greatest_spec h2
  exact Rat.le_antisymm (b2 _ (mem_temps.mp a1)) (a2 _ (mem_temps.mpr b1))
theorem smallest_temps {l : List Cell} (h : 1 ≤ l.length) : Kqk1.smallest (temps l) = Kqk1.smallest (Kqk1.temperatures l) := by
  obtain ⟨h1, h2⟩ := temps_ne h
  obtain ⟨a1, a2⟩ := smallest_spec h1
  obtain ⟨b1, b2⟩ := smallest_spec h2
  exact Rat.le_antisymm (a2 _ (mem_temps.mpr b1)) (b2 _ (mem_temps.mp a1))

/-! ### comparisons of two rows -/
def caps (l : List Cell) : List Int := l.map fun c => (c.rockCapacity : Int)
/-- is_nowhere_colder -/
def nowhere (l m : List Cell) : Bool := if caps l = caps m then !((List.zip (temps l) (temps m)).any fun p => decide (p.1 < p.2)) else false
theorem caps_len {l m : List Cell} (h : caps l = caps m) : l.length = m.length := by
  have := congrArg List.length h
  simpa [caps] using this
theorem caps_iff : ∀ l m : List Cell, (caps l = caps m) ↔ Kqk1.haveEqualCapacities l m = true
  | [], [] => by simp [caps, Kqk1.haveEqualCapacities]
  | [], _ :: _ => by simp [caps, Kqk1.haveEqualCapacities]
  | _ :: _, [] => by simp [caps, Kqk1.haveEqualCapacities]
  | a :: l, b :: m => by
    have ih := caps_iff l m
    simp only [caps, Kqk1.haveEqualCapacities, List.map_cons, List.length_cons, List.zip_cons_cons, List.all_cons, List.cons.injEq, Bool.and_eq_true, beq_iff_eq] at ih ⊢
    rw [ih]
    have e3 : ((a.rockCapacity : Int) = (b.rockCapacity : Int)) ↔ a.rockCapacity = b.rockCapacity := by omega
    have e4 : l.length + 1 = m.length + 1 ↔ l.length = m.length := by omega
    rw [e3, e4]
    exact ⟨fun ⟨a, b, c⟩ => ⟨b, a, c⟩, fun ⟨b, a, c⟩ => ⟨a, b, c⟩⟩
theorem hec_comm (l m : List Cell) : Kqk1.haveEqualCapacities l m = Kqk1.haveEqualCapacities m l := by
  rw [Bool.eq_iff_iff, ← caps_iff, ← caps_iff]
  exact eq_comm
theorem zip_app {α β : Type} : ∀ (a : List α) (c : List β) (b : List α) (d : List β), a.length = c.length → List.zip (a ++ b) (c ++ d) = List.zip a c ++ List.zip b d
  | [], [], _, _, _ => rfl
  | [], _ :: _, _, _, h => by simp at h
  | _ :: _, [], _, _, h => by simp at h
  | x :: a, y :: c, b, d, h => by
    show (x, y) :: List.zip (a ++ b) (c ++ d) = (x, y) :: (List.zip a c ++ List.zip b d)
    rw [zip_app a c b d (by simpa using h)]
theorem nowhere_aux : ∀ (l m : List Cell) (_ : l.length = m.length),
    (((List.zip (l.map Cell.rock) (m.map Cell.rock)).any fun p => decide (p.1 < p.2)) = false ∧ ((List.zip (l.map Cell.water) (m.map Cell.water)).any fun p => decide (p.1 < p.2)) = false ∧ caps l = caps m) ↔
      ((List.zip l m).all fun p => p.1.rockCapacity == p.2.rockCapacity && decide (p.2.rock ≤ p.1.rock) && decide (p.2.water ≤ p.1.water)) = true
  | [], [], _ => by simp [caps]
  | [], _ :: _, h => by simp at h
  | _ :: _, [], h => by simp at h
  | a :: l, b :: m, h => by
    have ih := nowhere_aux l m (by simpa using h)
    simp only [caps, List.map_cons, List.zip_cons_cons, List.all_cons, List.any_cons, List.cons.injEq, Bool.and_eq_true, Bool.or_eq_false_iff, beq_iff_eq, decide_eq_true_eq, decide_eq_false_iff_not] at ih ⊢
    rw [← ih]
    have e1 : (¬ a.rock < b.rock) ↔ b.rock ≤ a.rock := Rat.not_lt
    have e2 : (¬ a.water < b.water) ↔ b.water ≤ a.water := Rat.not_lt
    rw [e1, e2]
    have e3 : ((a.rockCapacity : Int) = (b.rockCapacity : Int)) ↔ a.rockCapacity = b.rockCapacity := by omega
    rw [e3]
    constructor
    · rintro ⟨⟨p1, p2⟩, ⟨p3, p4⟩, p5, p6⟩
      exact ⟨⟨⟨p5, p1⟩, p3⟩, p2, p4, p6⟩
    · rintro ⟨⟨⟨p5, p1⟩, p3⟩, p2, p4, p6⟩
      exact ⟨⟨p1, p2⟩, ⟨p3, p4⟩, p5, p6⟩
theorem nowhere_eq (l m : List Cell) : nowhere l m = Kqk1.isNowhereColder l m := by
  unfold nowhere Kqk1.isNowhereColder
  by_cases hl : l.length = m.length
  · have q := nowhere_aux l m hl
    have e1 : (l.length == m.length) = true := by simpa using hl
    rw [e1, Bool.true_and]
    by_cases hc : caps l = caps m
    · rw [if_pos hc]
      unfold temps
      rw [zip_app _ _ _ _ (by simpa using hl), List.any_append, Bool.eq_iff_iff, ← q]
      simp [hc]
    · rw [if_neg hc, eq_comm, ← Bool.not_eq_true, ← q]
      exact fun h => hc h.2.2
  · have e1 : (l.length == m.length) = false := by simpa using hl
    rw [e1, Bool.false_and, if_neg fun h => hl (caps_len h)]

/-! ### denominators -/
def small (l : List Rat) : Bool := l.all fun q => decide (q.den ≤ 10 ^ 40)
theorem small_eq (r : Reservoir) : Kqk1.denominatorsAreSmall r = small (temps r.cells ++ [r.injectedSum, r.producedSum]) := by
  unfold Kqk1.denominatorsAreSmall small Kqk1.maxDenominator
  rw [List.all_append, List.all_append]
  congr 1
  rw [Bool.eq_iff_iff, List.all_eq_true, List.all_eq_true]
  exact ⟨fun h x hx => h x (mem_temps.mp hx), fun h x hx => h x (mem_temps.mpr hx)⟩
theorem small_app (l m : List Rat) : small (l ++ m) = (small l && small m) := List.all_append
theorem small_mem {l : List Rat} (h : small l = true) {q : Rat} (hq : q ∈ l) : q.den ≤ 10 ^ 40 := of_decide_eq_true (List.all_eq_true.mp h q hq)

/-! ### a state within its limits -/
structure Sb (B : Nat) (q : Rat) : Prop where
  lo : -(B : Rat) ≤ q
  hi : q ≤ (B : Rat)
  den : q.den ≤ 10 ^ 40
structure Ok (B : Nat) (r : Reservoir) : Prop where
  row : RowOk r.cells
  inj : ∃ n : Nat, n ≤ 300 ∧ r.injection = (n : Rat)
  isum : Sb B r.injectedSum
  psum : Sb B r.producedSum
  saved : ∀ l, r.saved = some l → RowOk l
theorem Sb.small {B : Nat} {q : Rat} (h : Sb B q) : decide (q.den ≤ 10 ^ 40) = true := decide_eq_true h.den
theorem Ok.small {B : Nat} {r : Reservoir} (h : Ok B r) {l : List Cell} : Kqk1.denominatorsAreSmall { r with cells := l } = Cf.small (temps l) := by
  rw [small_eq, small_app]
  show (Cf.small (temps l) && ([r.injectedSum, r.producedSum].all fun q => decide (q.den ≤ 10 ^ 40))) = _
  simp only [List.all_cons, List.all_nil, h.isum.small, h.psum.small, Bool.and_true]

/-! ### what a call gives -/
def Fails (r : Reservoir) (q : Request) (c : Int) : Prop := Kqk1.step (some r) q = (some r, .value c)
def Does (r : Reservoir) (q : Request) (r' : Reservoir) (ns : List Int) : Prop := (Kqk1.step (some r) q).1 = some r' ∧ Kqk1Neutral.fields (Kqk1.step (some r) q).2 = ns
theorem Does.of {r r' : Reservoir} {q : Request} {x : Result} {ns : List Int} (h : Kqk1.step (some r) q = (some r', x)) (e : Kqk1Neutral.fields x = ns) : Does r q r' ns := by
  unfold Does
  rw [h]
  exact ⟨rfl, e⟩
theorem cell_get {r : Reservoir} {i : Nat} {c : Cell} (h : r.cells[i]? = some c) : Kqk1.cell r i = c := by
  unfold Kqk1.cell
  rw [List.getD_eq_getElem?_getD, h] <;> rfl
theorem get_lt {α : Type} {l : List α} {i : Nat} {c : α} (h : l[i]? = some c) : i < l.length := (List.getElem?_eq_some_iff.mp h).1
section
variable {r : Reservoir} {B i t k : Nat} {c : Cell}
theorem f_cap1 (h : r.cells.length ≤ i) : Fails r (.setRockCapacity i k) (-2) := by
  unfold Fails
  simp only [Kqk1.step, if_pos h]
theorem f_cap2 (h : i < r.cells.length) (hk : k < 1 ∨ 20 < k) : Fails r (.setRockCapacity i k) (-22) := by
  unfold Fails
  simp only [Kqk1.step, if_neg (Nat.not_le.mpr h), if_pos hk]
theorem d_cap (h : r.cells[i]? = some c) (hk : ¬ (k < 1 ∨ 20 < k)) : Does r (.setRockCapacity i k) { r with cells := r.cells.set i ⟨k, c.rock, c.water⟩ } [(c.rockCapacity : Int)] := by
  refine Does.of (x := .value c.rockCapacity) ?_ rfl
  simp only [Kqk1.step, if_neg (Nat.not_le.mpr (get_lt h)), if_neg hk, cell_get h]
theorem f_temp1 (h : r.cells.length ≤ i) : Fails r (.setTemperature i t) (-2) := by
  unfold Fails
  simp only [Kqk1.step, if_pos h]
theorem f_temp2 (h : i < r.cells.length) (ht : 300 < t) : Fails r (.setTemperature i t) (-22) := by
  unfold Fails
  simp only [Kqk1.step, if_neg (Nat.not_le.mpr h), if_pos ht]
theorem d_temp (h : r.cells[i]? = some c) (ht : ¬ 300 < t) : Does r (.setTemperature i t) { r with cells := r.cells.set i ⟨c.rockCapacity, (t : Rat), (t : Rat)⟩ } [0] := by
  refine Does.of (x := .value 0) ?_ rfl
  simp only [Kqk1.step, if_neg (Nat.not_le.mpr (get_lt h)), if_neg ht, cell_get h]
theorem f_all (ht : 300 < t) : Fails r (.setAllTemperatures t) (-22) := by
  unfold Fails
  simp only [Kqk1.step, if_pos ht]
theorem d_all (ht : ¬ 300 < t) : Does r (.setAllTemperatures t) { r with cells := r.cells.map fun c => ⟨c.rockCapacity, (t : Rat), (t : Rat)⟩ } [(r.cells.length : Int)] := by
  refine Does.of (x := .value r.cells.length) ?_ rfl
  simp only [Kqk1.step, if_neg ht]
theorem f_inj (ht : 300 < t) : Fails r (.setInjectionTemperature t) (-22) := by
  unfold Fails
  simp only [Kqk1.step, if_pos ht]
theorem d_inj (ht : ¬ 300 < t) : Does r (.setInjectionTemperature t) { r with injection := (t : Rat) } [0, r.injection.num, (r.injection.den : Int)] := by
  refine Does.of (x := .values 0 (Kqk1.fraction r.injection)) ?_ rfl
  simp only [Kqk1.step, if_neg ht]
/-- what k steps gain -/
def gained (r : Reservoir) (k : Nat) : Rat := sumR (outs r.injection k r.cells)
theorem f_adv (h : ¬ Kqk1.denominatorsAreSmall (Kqk1.advanceMany 1 r) = true) : Fails r .advance (-75) := by
  unfold Fails
  show Kqk1.commit r (Kqk1.advanceMany 1 r) _ = _
  unfold Kqk1.commit
  rw [if_neg h]
theorem d_adv (h : Kqk1.denominatorsAreSmall (Kqk1.advanceMany 1 r) = true) : Does r .advance (Kqk1.advanceMany 1 r) [0, (gained r 1).num, ((gained r 1).den : Int)] := by
  have e : gained r 1 = Kqk1.outlet r.cells := by
    show 0 + Kqk1.outlet r.cells = _
    rw [Rat.zero_add]
  rw [e]
  refine Does.of (x := Kqk1.fractions [Kqk1.outlet r.cells]) ?_ rfl
  show Kqk1.commit r (Kqk1.advanceMany 1 r) _ = _
  unfold Kqk1.commit
  rw [if_pos h]
theorem f_many1 (hk : k < 1 ∨ 20 < k) : Fails r (.advanceMany k) (-22) := by
  unfold Fails
  show (if k < 1 ∨ Kqk1.horizon < k then _ else _) = _
  exact if_pos hk
theorem f_many2 (hk : ¬ (k < 1 ∨ 20 < k)) (h : ¬ Kqk1.denominatorsAreSmall (Kqk1.advanceMany k r) = true) : Fails r (.advanceMany k) (-75) := by
  unfold Fails
  show (if k < 1 ∨ Kqk1.horizon < k then _ else Kqk1.commit _ _ _) = _
  refine (if_neg hk).trans ?_
  simp only [Kqk1.commit, if_neg h]
theorem d_many (hk : ¬ (k < 1 ∨ 20 < k)) (h : Kqk1.denominatorsAreSmall (Kqk1.advanceMany k r) = true) : Does r (.advanceMany k) (Kqk1.advanceMany k r) [0, (gained r k).num, ((gained r k).den : Int)] := by
  have e : gained r k = (Kqk1.advanceMany k r).producedSum - r.producedSum := by
    rw [many_psum]
    unfold gained
    grind
  rw [e]
  refine Does.of (x := Kqk1.fractions [(Kqk1.advanceMany k r).producedSum - r.producedSum]) ?_ rfl
  show (if k < 1 ∨ Kqk1.horizon < k then _ else Kqk1.commit _ _ _) = _
  refine (if_neg hk).trans ?_
  simp only [Kqk1.commit, if_pos h]
theorem f_equ (o : Ok B r) (h : ¬ small (temps (r.cells.map Kqk1.equilibrated)) = true) : Fails r .equilibrate (-75) := by
  unfold Fails
  show Kqk1.commit r _ _ = _
  unfold Kqk1.commit
  rw [o.small, if_neg h]
theorem d_equ (o : Ok B r) (h : small (temps (r.cells.map Kqk1.equilibrated)) = true) : Does r .equilibrate { r with cells := r.cells.map Kqk1.equilibrated } [(r.cells.length : Int)] := by
  refine Does.of (x := .value r.cells.length) ?_ rfl
  show Kqk1.commit r _ _ = _
  unfold Kqk1.commit
  rw [o.small, if_pos h]
theorem f_fore (hk : 20 < k) : Fails r (.forecast k) (-22) := by
  unfold Fails
  show (some r, (if Kqk1.horizon < k then _ else _)) = _
  exact congrArg (Prod.mk _) (if_pos hk)
theorem d_fore (hk : ¬ 20 < k) : Does r (.forecast k) r ((k : Int) :: (outs r.injection k r.cells).flatMap Kqk1.fraction) := by
  refine Does.of (x := .values k ((Kqk1.forecast k r).flatMap Kqk1.fraction)) ?_ ?_
  · show (some r, (if Kqk1.horizon < k then _ else _)) = _
    exact congrArg (Prod.mk _) (if_neg hk)
  · rw [forecast_outs] <;> rfl
theorem f_get (h : r.cells.length ≤ i) : Fails r (.getCell i) (-2) := by
  unfold Fails
  simp only [Kqk1.step, if_pos h]
theorem d_get (h : r.cells[i]? = some c) : Does r (.getCell i) r [(c.rockCapacity : Int), c.rock.num, (c.rock.den : Int), c.water.num, (c.water.den : Int)] := by
  refine Does.of (x := .values c.rockCapacity (Kqk1.fraction c.rock ++ Kqk1.fraction c.water)) ?_ rfl
  simp only [Kqk1.step, if_neg (Nat.not_le.mpr (get_lt h)), cell_get h]
theorem d_heat : Does r .totalHeat r [0, (Kqk1.totalHeat r.cells).num, ((Kqk1.totalHeat r.cells).den : Int)] := Does.of (x := Kqk1.fractions [Kqk1.totalHeat r.cells]) rfl rfl
theorem d_bal : Does r .balance r [(r.producedCount : Int), r.injectedSum.num, (r.injectedSum.den : Int), r.producedSum.num, (r.producedSum.den : Int)] :=
  Does.of (x := .values r.producedCount (Kqk1.fraction r.injectedSum ++ Kqk1.fraction r.producedSum)) rfl rfl
theorem d_hot (h : 1 ≤ r.cells.length) : Does r .hottest r [0, (Kqk1.greatest (temps r.cells)).num, ((Kqk1.greatest (temps r.cells)).den : Int)] := by
  rw [greatest_temps h]
  exact Does.of (x := Kqk1.fractions [Kqk1.greatest (Kqk1.temperatures r.cells)]) rfl rfl
theorem d_cold (h : 1 ≤ r.cells.length) : Does r .coldest r [0, (Kqk1.smallest (temps r.cells)).num, ((Kqk1.smallest (temps r.cells)).den : Int)] := by
  rw [smallest_temps h]
  exact Does.of (x := Kqk1.fractions [Kqk1.smallest (Kqk1.temperatures r.cells)]) rfl rfl
theorem f_break (h : ∀ q ∈ outs r.injection 20 r.cells, ¬ q < (t : Rat)) : Fails r (.breakthrough t) (-33) := by
  unfold Fails
  have e : (Kqk1.forecast 20 r).findIdx? (fun q => decide (q < (t : Rat))) = none := by
    rw [forecast_outs, List.findIdx?_eq_none_iff]
    intro q hq
    exact decide_eq_false (h q hq)
  simp only [Kqk1.step, Kqk1.horizon, e]
theorem d_break {q : Rat} (hi : (outs r.injection 20 r.cells)[i]? = some q) (hq : q < (t : Rat)) (hb : ∀ j p, j < i → (outs r.injection 20 r.cells)[j]? = some p → ¬ p < (t : Rat)) : Does r (.breakthrough t) r [(i : Int)] := by
  have e : (Kqk1.forecast 20 r).findIdx? (fun q => decide (q < (t : Rat))) = some i := by
    rw [forecast_outs, List.findIdx?_eq_some_iff_getElem]
    obtain ⟨h1, h2⟩ := List.getElem?_eq_some_iff.mp hi
    refine ⟨h1, ?_, fun j hj => ?_⟩
    · rw [h2]
      exact decide_eq_true hq
    · have hj' : j < (outs r.injection 20 r.cells).length := Nat.lt_trans hj h1
      have z := hb j _ hj (List.getElem?_eq_getElem hj')
      simpa using z
  refine Does.of (x := .value i) ?_ rfl
  simp only [Kqk1.step, Kqk1.horizon, e]
theorem d_save : Does r .saveProfile { r with saved := some r.cells } [(r.cells.length : Int)] := Does.of (x := .value r.cells.length) rfl rfl
theorem f_cmp (h : r.saved = none) : Fails r .compareWithSaved (-6) := by
  unfold Fails
  simp only [Kqk1.step, h]
def b01 (b : Bool) : Int := if b then 1 else 0
theorem d_cmp {l : List Cell} (h : r.saved = some l) : Does r .compareWithSaved r [b01 (nowhere r.cells l), b01 (nowhere l r.cells)] := by
  refine Does.of (x := .values (b01 (nowhere r.cells l)) [b01 (nowhere l r.cells)]) ?_ rfl
  rw [nowhere_eq, nowhere_eq]
  simp only [Kqk1.step, h]
  rfl
theorem f_avg1 (h : r.saved = none) : Fails r .averageWithSaved (-6) := by
  unfold Fails
  simp only [Kqk1.step, h]
theorem hec_false {l m : List Cell} (hc : ¬ caps l = caps m) : Kqk1.haveEqualCapacities m l = false := by
  rw [hec_comm, ← Bool.not_eq_true]
  exact fun z => hc ((caps_iff _ _).mpr z)
theorem hec_true {l m : List Cell} (hc : caps l = caps m) : ¬ Kqk1.haveEqualCapacities m l = false := by
  rw [hec_comm, (caps_iff _ _).mp hc]
  exact fun z => Bool.noConfusion z
theorem f_avg2 {l : List Cell} (h : r.saved = some l) (hc : ¬ caps r.cells = caps l) : Fails r .averageWithSaved (-34) := by
  unfold Fails
  simp only [Kqk1.step, h, if_pos (hec_false hc)]
theorem f_avg3 {l : List Cell} (o : Ok B r) (h : r.saved = some l) (hc : caps r.cells = caps l) (hs : ¬ small (temps (Kqk1.mean r.cells l)) = true) : Fails r .averageWithSaved (-75) := by
  unfold Fails
  simp only [Kqk1.step, h, if_neg (hec_true hc), Kqk1.commit]
  rw [if_neg]
  intro z
  have e := o.small (l := Kqk1.mean r.cells l)
  rw [h] at e
  exact hs (e.symm.trans z)
theorem d_avg {l : List Cell} (o : Ok B r) (h : r.saved = some l) (hc : caps r.cells = caps l) (hs : small (temps (Kqk1.mean r.cells l)) = true) : Does r .averageWithSaved { r with cells := Kqk1.mean r.cells l } [(r.cells.length : Int)] := by
  refine Does.of (x := .value r.cells.length) ?_ rfl
  have e := o.small (l := Kqk1.mean r.cells l)
  rw [h] at e
  simp only [Kqk1.step, h, if_neg (hec_true hc), Kqk1.commit]
  rw [if_pos (e.trans hs)]
theorem d_rev : Does r .reverse { r with cells := r.cells.reverse } [(r.cells.length : Int)] := Does.of (x := .value r.cells.length) rfl rfl
/-- the weight that excess_heat sums up -/
def weight (l : List Cell) : Int := (l.map fun c => (c.rockCapacity : Int) + 1).sum
theorem weight_fold : ∀ (l : List Cell) (a : Nat), (((l.map fun c => c.rockCapacity + 1).foldl (fun x y => x + y) a : Nat) : Int) = (a : Int) + weight l
  | [], a => by simp [weight]
  | c :: l, a => by
    have ih := weight_fold l (a + (c.rockCapacity + 1))
    simp only [List.map_cons, List.foldl_cons, weight, List.sum_cons] at ih ⊢
    rw [ih]
    omega
theorem weight_eq (l : List Cell) : weight l = (Kqk1.totalCapacity l : Int) := by
  have := weight_fold l 0
  unfold Kqk1.totalCapacity
  rw [this]
  omega
/-- excess_heat's fraction -/
def excess (r : Reservoir) (t : Nat) : Rat := Kqk1.totalHeat r.cells + ((-(t : Int) * weight r.cells : Int) : Rat)
theorem excess_eq (r : Reservoir) (t : Nat) : excess r t = Kqk1.totalHeat r.cells - (t : Rat) * ((Kqk1.totalCapacity r.cells : Nat) : Rat) := by
  unfold excess
  rw [weight_eq, Rat.intCast_mul, Rat.intCast_neg]
  have e1 : (((t : Int)) : Rat) = (t : Rat) := rfl
  have e2 : (((Kqk1.totalCapacity r.cells : Nat) : Int) : Rat) = ((Kqk1.totalCapacity r.cells : Nat) : Rat) := rfl
  rw [e1, e2]
  grind
theorem d_exc : Does r (.excessHeat t) r [0, (excess r t).num, ((excess r t).den : Int)] := by
  rw [excess_eq]
  exact Does.of (x := Kqk1.fractions [Kqk1.totalHeat r.cells - (t : Rat) * ((Kqk1.totalCapacity r.cells : Nat) : Rat)]) rfl rfl
theorem d_sum : Does r .summary r [(r.cells.length : Int), (r.producedCount : Int), b01 r.saved.isSome, r.injection.num, (r.injection.den : Int)] :=
  Does.of (x := .values r.cells.length ([(r.producedCount : Int), if r.saved.isSome then 1 else 0] ++ Kqk1.fraction r.injection)) rfl rfl
end
end Cf

end
section
set_option autoImplicit false
set_option maxRecDepth 512
set_option maxHeartbeats 200000
/-! Plain mathematics, part D: a state within its limits stays so; what the machine is asked of it is kept. -/
namespace Cf
open Kqk1 (Cell Reservoir Request Result)

/-! ### sizes of a state's numbers -/
theorem Tm.bd {q : Rat} (h : Tm q) : Bd q.den 300 q := Bd.of_le h.lo h.hi
theorem ten40 : (10 : Nat) ^ 40 < 2 ^ 3000 := by decide +kernel
theorem Tm.sm {q : Rat} (h : Tm q) : Sm q := h.bd.sm q.den_pos (Nat.lt_of_le_of_lt h.den ten40) (small_num (by decide))
theorem Sb.bd {B : Nat} {q : Rat} (h : Sb B q) : Bd q.den B q := Bd.of_le h.lo h.hi
theorem Sb.sm {B : Nat} {q : Rat} (h : Sb B q) (hB : B ≤ 2 ^ 40) : Sm q := h.bd.sm q.den_pos (Nat.lt_of_le_of_lt h.den ten40) (small_num hB)
theorem CellOk.temps {l : List Cell} (h : ∀ c ∈ l, CellOk c) : ∀ q ∈ temps l, Tm q := by
  intro q hq
  unfold Cf.temps at hq
  rcases List.mem_append.mp hq with hq | hq
  · obtain ⟨c, hc, rfl⟩ := List.mem_map.mp hq
    exact (h c hc).rock
  · obtain ⟨c, hc, rfl⟩ := List.mem_map.mp hq
    exact (h c hc).water
theorem RowOk.tempsSm {l : List Cell} (h : RowOk l) : ∀ q ∈ temps l, Sm q := fun q hq => (CellOk.temps h.all q hq).sm
theorem RowOk.sm {l : List Cell} (h : RowOk l) : RowSm l := by
  have b := den1_bd l h.all
  refine b.sm (den1_pos l) ?_
  have := row_lt0 h (k := 0) (by decide)
  rwa [Nat.pow_zero, Nat.mul_one] at this
def heat (c : Cell) : Rat := c.rock * ((c.rockCapacity : Int) : Rat) + c.water
theorem row_lt1 {l : List Cell} (h : RowOk l) : den1 l < 2 ^ 3000 := by
  have := row_lt0 h (k := 0) (by decide)
  rwa [Nat.pow_zero, Nat.mul_one] at this
theorem heat_bd {l : List Cell} (h : RowOk l) : ∀ q ∈ l.map heat, Bd (den1 l) 6300 q := by
  intro q hq
  obtain ⟨c, hc, rfl⟩ := List.mem_map.mp hq
  have b := den1_bd l h.all c hc
  have e := (b.rock.mul c.rockCapacity).add (den1_pos l) b.water
  refine e.mono (Nat.dvd_refl _) ?_
  have := b.cap2
  omega
theorem RowOk.heatSm {l : List Cell} (h : RowOk l) : SumSm (l.map heat) := by
  have := h.most
  refine SumSm.of (den1_pos l) (row_lt1 h) (heat_bd h) ?_ (by decide)
  rw [List.length_map]
  omega
theorem RowOk.heat_sum {l : List Cell} (h : RowOk l) : Bd (den1 l) 50400 (sumR (l.map heat)) := by
  have := h.most
  refine (sum_bd (den1_pos l) _ (heat_bd h)).mono (Nat.dvd_refl _) ?_
  rw [List.length_map]
  omega
theorem RowOk.heatSum {l : List Cell} (h : RowOk l) : Sm (sumR (l.map heat)) := h.heat_sum.sm (den1_pos l) (row_lt1 h) (small_num (by decide))
theorem total_eq (l : List Cell) : Kqk1.totalHeat l = sumR (l.map heat) := by
  unfold Kqk1.totalHeat sumR
  congr 1
  refine List.map_congr_left fun c _ => ?_
  show (c.rockCapacity : Rat) * c.rock + c.water = _
  rw [Rat.mul_comm]
  rfl
/-- a whole number is small -/
theorem whole_sm {n : Int} (h : n.natAbs < 2 ^ 4000) : Sm (n : Rat) := ⟨by rw [whole_num]; exact h, by rw [whole_den]; decide +kernel⟩
theorem weight_le {l : List Cell} (h : ∀ c ∈ l, CellOk c) : 0 ≤ weight l ∧ weight l ≤ 21 * l.length := by
  induction l with
  | nil => simp [weight]
  | cons c l ih =>
    have q := ih fun d hd => h d (List.mem_cons_of_mem _ hd)
    have p := (h c (List.mem_cons_self ..)).cap2
    unfold weight at q ⊢
    rw [List.map_cons, List.sum_cons, List.length_cons]
    omega
theorem exc_sm {l : List Cell} (h : RowOk l) {t : Nat} (ht : t < 2 ^ 32) : Sm ((-(t : Int) * weight l : Int) : Rat) := by
  refine whole_sm ?_
  have w := weight_le h.all
  have m := h.most
  have hw : (weight l).natAbs ≤ 168 := by omega
  rw [Int.natAbs_mul, Int.natAbs_neg, Int.natAbs_natCast]
  have h1 : t * (weight l).natAbs ≤ 2 ^ 32 * 168 := Nat.mul_le_mul (Nat.le_of_lt ht) hw
  exact Nat.lt_of_le_of_lt h1 (by decide +kernel)
section
variable {B : Nat} {r : Reservoir}
theorem Ok.steps (o : Ok B r) {k : Nat} (hk : k ≤ 20) : StepsSm r.injection k r.cells := by
  obtain ⟨n, hn, e⟩ := o.inj
  rw [e]
  exact steps_sm o.row hn hk
theorem Ok.injSm (o : Ok B r) : Sm r.injection := (o.steps (k := 0) (by decide)).ent
theorem Ok.outsSm (o : Ok B r) {k : Nat} (hk : k ≤ 20) : SumSm (outs r.injection k r.cells) := by
  obtain ⟨n, hn, e⟩ := o.inj
  rw [e]
  refine SumSm.of (row_pos r.cells k) (row_lt0 o.row hk) (outs_bd o.row hn) ?_ (by decide)
  rw [outs_len]
  omega
theorem Ok.gain (o : Ok B r) {k : Nat} (hk : k ≤ 20) : Bd (den1 r.cells * lam ^ k) 6000 (gained r k) := by
  obtain ⟨n, hn, e⟩ := o.inj
  unfold gained
  rw [e]
  refine (sum_bd (row_pos r.cells k) _ (outs_bd o.row hn)).mono (Nat.dvd_refl _) ?_
  rw [outs_len]
  omega
theorem Ok.gainSm (o : Ok B r) {k : Nat} (hk : k ≤ 20) : Sm (gained r k) := (o.gain hk).sm (row_pos r.cells k) (row_lt0 o.row hk) (small_num (by decide))
theorem Ok.injk (o : Ok B r) {k : Nat} (hk : k ≤ 20) : Bd 1 6000 (r.injection * ((k : Int) : Rat)) := by
  obtain ⟨n, hn, e⟩ := o.inj
  rw [e]
  exact ((inj_bd 1 hn).mul k).mono (Nat.dvd_refl _) (by omega)
theorem Ok.injkSm (o : Ok B r) {k : Nat} (hk : k ≤ 20) : Sm (r.injection * ((k : Int) : Rat)) := (o.injk hk).sm (by decide) (by decide +kernel) (small_num (by decide))
end
/-! ### a state stays within its limits -/
theorem tm_whole {t : Nat} (ht : t ≤ 300) : Tm (t : Rat) := by
  have b := Bd.whole t ht
  exact ⟨b.lo, b.hi, by rw [Rat.den_natCast]; decide⟩
theorem tm_100 : Tm (100 : Rat) := tm_whole (t := 100) (by decide)
theorem tm_of {L : Nat} {q : Rat} (b : Bd L 300 q) (h : q.den ≤ 10 ^ 40) : Tm q := ⟨b.lo, b.hi, h⟩
theorem rowOk_of {L : Nat} {l : List Cell} (b : RowBd L l) (h1 : 1 ≤ l.length) (h8 : l.length ≤ 8) (hs : small (temps l) = true) : RowOk l := by
  refine ⟨h1, h8, fun c hc => ⟨(b c hc).cap1, (b c hc).cap2, tm_of (b c hc).rock (small_mem hs ?_), tm_of (b c hc).water (small_mem hs ?_)⟩⟩
  · exact List.mem_append_left _ (List.mem_map_of_mem hc)
  · exact List.mem_append_right _ (List.mem_map_of_mem hc)
theorem RowOk.set {l : List Cell} (h : RowOk l) {i : Nat} {c : Cell} (hc : CellOk c) : RowOk (l.set i c) := by
  refine ⟨by rw [List.length_set]; exact h.one, by rw [List.length_set]; exact h.most, fun d hd => ?_⟩
  rcases List.mem_or_eq_of_mem_set hd with hd | rfl
  · exact h.all d hd
  · exact hc
theorem RowOk.rev {l : List Cell} (h : RowOk l) : RowOk l.reverse := ⟨by rw [List.length_reverse]; exact h.one, by rw [List.length_reverse]; exact h.most, fun d hd => h.all d (List.mem_reverse.mp hd)⟩
theorem mean_len0 {l m : List Cell} : (Kqk1.mean l m).length = min l.length m.length := by
  unfold Kqk1.mean
  rw [List.length_map, List.length_zip]
theorem half {L M : Nat} {x y : Rat} (h0 : 0 < L) (hx : Bd L M x) (hy : Bd L M y) : Bd (L * 2) M ((x + y) / ((2 : Nat) : Rat)) := by
  refine Bd.div (by decide) ?_
  have := hx.add h0 hy
  rw [Nat.mul_two]
  exact this
theorem mean_bd {l m : List Cell} (hl : ∀ c ∈ l, CellOk c) (hm : ∀ c ∈ m, CellOk c) : RowBd (den1 l * den1 m * 2) (Kqk1.mean l m) := by
  intro c hc
  unfold Kqk1.mean at hc
  obtain ⟨⟨a, b⟩, hp, rfl⟩ := List.mem_map.mp hc
  have ha := (List.of_mem_zip hp).1
  have hb := (List.of_mem_zip hp).2
  have qa := (den1_bd l hl a ha).mono (L' := den1 l * den1 m) ⟨den1 m, rfl⟩
  have qb := (den1_bd m hm b hb).mono (L' := den1 l * den1 m) ⟨den1 l, Nat.mul_comm ..⟩
  have h0 : 0 < den1 l * den1 m := Nat.mul_pos (den1_pos l) (den1_pos m)
  exact ⟨qa.cap1, qa.cap2, half h0 qa.rock qb.rock, half h0 qa.water qb.water⟩
theorem Sb.mono {B B' : Nat} {q : Rat} (h : Sb B q) (hB : B ≤ B') : Sb B' q := by
  have b := (h.bd).mono (Nat.dvd_refl _) hB
  exact ⟨b.lo, b.hi, h.den⟩
theorem Ok.mono {B B' : Nat} {r : Reservoir} (h : Ok B r) (hB : B ≤ B') : Ok B' r := ⟨h.row, h.inj, h.isum.mono hB, h.psum.mono hB, h.saved⟩
theorem Ok.cells {B : Nat} {r : Reservoir} (h : Ok B r) {l : List Cell} (hl : RowOk l) : Ok B { r with cells := l } := ⟨hl, h.inj, h.isum, h.psum, h.saved⟩
theorem Sb.add {B M L : Nat} {x y : Rat} (hx : Sb B x) (hy : Bd L M y) (hd : (x + y).den ≤ 10 ^ 40) : Sb (B + M) (x + y) := by
  have e : ((B + M : Nat) : Rat) = (B : Rat) + (M : Rat) := Rat.natCast_add ..
  have := hx.lo
  have := hx.hi
  have := hy.lo
  have := hy.hi
  exact ⟨by grind, by grind, hd⟩
theorem Ok.many {B : Nat} {r : Reservoir} (o : Ok B r) {k : Nat} (hk : k ≤ 20) (hs : Kqk1.denominatorsAreSmall (Kqk1.advanceMany k r) = true) : Ok (B + 6000) (Kqk1.advanceMany k r) := by
  rw [small_eq, small_app, Bool.and_eq_true] at hs
  obtain ⟨h1, h2⟩ := hs
  have hi := small_mem h2 (q := (Kqk1.advanceMany k r).injectedSum) (by simp)
  have hp := small_mem h2 (q := (Kqk1.advanceMany k r).producedSum) (by simp)
  refine ⟨?_, ?_, ?_, ?_, ?_⟩
  · rw [many_cells] at h1 ⊢
    obtain ⟨n, hn, e⟩ := o.inj
    rw [e] at h1 ⊢
    refine rowOk_of (advN_bd (den1_pos _) (inj_bd _ hn) (den1_bd _ o.row.all) k) ?_ ?_ h1
    · rw [advN_len]; exact o.row.one
    · rw [advN_len]; exact o.row.most
  · rw [many_inj]
    exact o.inj
  · rw [many_isum] at hi ⊢
    exact o.isum.add (o.injk hk) hi
  · rw [many_psum] at hp ⊢
    exact o.psum.add (o.gain hk) hp
  · intro l hl
    rw [many_saved] at hl
    exact o.saved l hl
theorem commit_fst {old new r' : Reservoir} {x : Result} (h : (Kqk1.commit old new x).1 = some r') : r' = old ∨ (r' = new ∧ Kqk1.denominatorsAreSmall new = true) := by
  unfold Kqk1.commit at h
  by_cases hs : Kqk1.denominatorsAreSmall new = true
  · rw [if_pos hs] at h
    exact .inr ⟨(Option.some.inj h).symm, hs⟩
  · rw [if_neg hs] at h
    exact .inl (Option.some.inj h).symm
theorem ite_fst {c : Prop} [Decidable c] {a b : Option Reservoir × Result} {r' : Reservoir} (h : (if c then a else b).1 = some r') : (c ∧ a.1 = some r') ∨ (¬ c ∧ b.1 = some r') := by
  by_cases hc : c
  · rw [if_pos hc] at h
    exact .inl ⟨hc, h⟩
  · rw [if_neg hc] at h
    exact .inr ⟨hc, h⟩
/-- what create makes -/
def fresh (n : Nat) : Reservoir := ⟨List.replicate n ⟨1, 100, 100⟩, 20, 0, 0, 0, none⟩
theorem sb_zero : Sb 0 (0 : Rat) := ⟨by decide, by decide, by decide⟩
theorem ok_fresh {n : Nat} (h : ¬ (n < 1 ∨ 8 < n)) : Ok 0 (fresh n) := by
  refine ⟨⟨?_, ?_, fun c hc => ?_⟩, ⟨20, by decide, rfl⟩, sb_zero, sb_zero, fun l hl => by cases hl⟩
  · show 1 ≤ (List.replicate n _).length
    rw [List.length_replicate]
    omega
  · show (List.replicate n _).length ≤ 8
    rw [List.length_replicate]
    omega
  · have e := (List.mem_replicate.mp hc).2
    rw [e]
    exact ⟨by decide, by decide, tm_100, tm_100⟩
theorem ok_next {B : Nat} {r r' : Reservoir} {q : Request} (o : Ok B r) (h : (Kqk1.step (some r) q).1 = some r') : Ok (B + 6000) r' := by
  have same : r' = r → Ok (B + 6000) r' := fun e => e ▸ o.mono (by omega)
  have some_eq : ∀ {x : Reservoir}, some x = some r' → r' = x := fun e => (Option.some.inj e).symm
  cases q with
  | create n =>
    rcases ite_fst (show (if n < 1 ∨ Kqk1.maxCells < n then ((some r, Result.value (-22)) : Option Reservoir × Result) else (some (fresh n), .value 0)).1 = some r' from h) with ⟨_, e⟩ | ⟨hc, e⟩
    · exact same (some_eq e)
    · rw [some_eq e]
      exact (ok_fresh hc).mono (by omega)
  | setRockCapacity i k =>
    rcases ite_fst (show (if r.cells.length ≤ i then _ else _ : Option Reservoir × Result).1 = some r' from h) with ⟨_, e⟩ | ⟨hi, e⟩
    · exact same (some_eq e)
    rcases ite_fst e with ⟨_, e⟩ | ⟨hk, e⟩
    · exact same (some_eq e)
    rw [some_eq e]
    have hi' : i < r.cells.length := by omega
    have hc := o.row.all _ (List.mem_of_getElem? (List.getElem?_eq_getElem hi'))
    have ec : Kqk1.cell r i = r.cells[i] := cell_get (List.getElem?_eq_getElem hi')
    refine (o.mono (by omega)).cells (o.row.set ?_)
    rw [ec]
    exact ⟨by show 1 ≤ k; omega, by show k ≤ 20; omega, hc.rock, hc.water⟩
  | setTemperature i t =>
    rcases ite_fst (show (if r.cells.length ≤ i then _ else _ : Option Reservoir × Result).1 = some r' from h) with ⟨_, e⟩ | ⟨hi, e⟩
    · exact same (some_eq e)
    rcases ite_fst e with ⟨_, e⟩ | ⟨ht, e⟩
    · exact same (some_eq e)
    rw [some_eq e]
    have hi' : i < r.cells.length := by omega
    have hc := o.row.all _ (List.mem_of_getElem? (List.getElem?_eq_getElem hi'))
    have ec : Kqk1.cell r i = r.cells[i] := cell_get (List.getElem?_eq_getElem hi')
    refine (o.mono (by omega)).cells (o.row.set ?_)
    rw [ec]
    exact ⟨hc.cap1, hc.cap2, tm_whole (by omega), tm_whole (by omega)⟩
  | setAllTemperatures t =>
    rcases ite_fst (show (if 300 < t then _ else _ : Option Reservoir × Result).1 = some r' from h) with ⟨_, e⟩ | ⟨ht, e⟩
    · exact same (some_eq e)
    rw [some_eq e]
    refine (o.mono (by omega)).cells ⟨by rw [List.length_map]; exact o.row.one, by rw [List.length_map]; exact o.row.most, fun d hd => ?_⟩
    obtain ⟨c, hc, rfl⟩ := List.mem_map.mp hd
    exact ⟨(o.row.all c hc).cap1, (o.row.all c hc).cap2, tm_whole (by omega), tm_whole (by omega)⟩
  | setInjectionTemperature t =>
    rcases ite_fst (show (if 300 < t then _ else _ : Option Reservoir × Result).1 = some r' from h) with ⟨_, e⟩ | ⟨ht, e⟩
    · exact same (some_eq e)
    rw [some_eq e]
    have o' := o.mono (B' := B + 6000) (by omega)
    exact ⟨o'.row, ⟨t, by omega, rfl⟩, o'.isum, o'.psum, o'.saved⟩
  | advance =>
    rcases commit_fst (show (Kqk1.commit r (Kqk1.advanceMany 1 r) _).1 = some r' from h) with e | ⟨e, hs⟩
    · exact same e
    · rw [e]
      exact o.many (by decide) hs
  | advanceMany k =>
    rcases ite_fst (show (if k < 1 ∨ 20 < k then _ else Kqk1.commit r (Kqk1.advanceMany k r) _ : Option Reservoir × Result).1 = some r' from h) with ⟨_, e⟩ | ⟨hk, e⟩
    · exact same (some_eq e)
    rcases commit_fst e with e | ⟨e, hs⟩
    · exact same e
    · rw [e]
      exact o.many (by omega) hs
  | equilibrate =>
    rcases commit_fst (show (Kqk1.commit r { r with cells := r.cells.map Kqk1.equilibrated } _).1 = some r' from h) with e | ⟨e, hs⟩
    · exact same e
    · rw [e]
      rw [o.small] at hs
      refine (o.mono (by omega)).cells (rowOk_of (map_eq_bd (den1_pos _) (den1_bd _ o.row.all)) ?_ ?_ hs)
      · rw [List.length_map]; exact o.row.one
      · rw [List.length_map]; exact o.row.most
  | averageWithSaved =>
    cases hsv : r.saved with
    | none =>
      have e : Kqk1.step (some r) .averageWithSaved = (some r, .value (-6)) := f_avg1 hsv
      rw [e] at h
      exact same (some_eq h)
    | some l =>
      have e : Kqk1.step (some r) .averageWithSaved = if Kqk1.haveEqualCapacities l r.cells = false then (some r, .value (-34)) else Kqk1.commit r { r with cells := Kqk1.mean r.cells l } (.value r.cells.length) := by
        simp only [Kqk1.step, hsv]
      rw [e] at h
      rcases ite_fst h with ⟨_, e⟩ | ⟨hc, e⟩
      · exact same (some_eq e)
      rcases commit_fst e with e | ⟨e, hs⟩
      · exact same e
      rw [e]
      rw [o.small] at hs
      have hl := o.saved l hsv
      have hlen : l.length = r.cells.length := by
        rw [Bool.not_eq_false] at hc
        exact caps_len ((caps_iff l r.cells).mpr hc)
      refine (o.mono (by omega)).cells (rowOk_of (mean_bd o.row.all hl.all) ?_ ?_ hs)
      · rw [mean_len0, hlen, Nat.min_self]; exact o.row.one
      · rw [mean_len0, hlen, Nat.min_self]; exact o.row.most
  | saveProfile =>
    rw [some_eq (show some _ = some r' from h)]
    have o' := o.mono (B' := B + 6000) (by omega)
    exact ⟨o'.row, o'.inj, o'.isum, o'.psum, fun l hl => Option.some.inj hl ▸ o.row⟩
  | reverse =>
    rw [some_eq (show some _ = some r' from h)]
    exact (o.mono (by omega)).cells o.row.rev
  | _ => exact same (some_eq (show some r = some r' from h))
/-! ### what the machine is asked of a mean -/
theorem pair_sm {x y : Rat} (hx : Tm x) (hy : Tm y) : Sm (x + y) := by
  have h0 : 0 < x.den * y.den := Nat.mul_pos x.den_pos y.den_pos
  have bx := hx.bd.mono (L' := x.den * y.den) ⟨y.den, rfl⟩ (Nat.le_refl _)
  have by' := hy.bd.mono (L' := x.den * y.den) ⟨x.den, Nat.mul_comm ..⟩ (Nat.le_refl _)
  refine (bx.add h0 by').sm h0 ?_ (small_num (by decide))
  exact Nat.lt_of_le_of_lt (Nat.mul_le_mul hx.den hy.den) (by decide +kernel)
theorem mean_sm {l m : List Cell} (hl : RowOk l) (hm : RowOk m) : ∀ (i : Nat) (c d : Cell), l[i]? = some c → m[i]? = some d → Sm c.rock ∧ Sm d.rock ∧ Sm c.water ∧ Sm d.water ∧ Sm (c.rock + d.rock) ∧ Sm (c.water + d.water) := by
  intro i c d hc hd
  have a := hl.all c (List.mem_of_getElem? hc)
  have b := hm.all d (List.mem_of_getElem? hd)
  exact ⟨a.rock.sm, b.rock.sm, a.water.sm, b.water.sm, pair_sm a.rock b.rock, pair_sm a.water b.water⟩
end Cf

end
section
set_option autoImplicit false
set_option maxRecDepth 512
set_option maxHeartbeats 200000
/-! Plain mathematics, part E: the list of calls, the requests, the play. -/
namespace Cf
open Kqk1 (Cell Reservoir Request Result)

/-! ### how many numbers a call has -/
def nums : List Int := [1, 2, 2, 1, 1, 0, 1, 0, 1, 1, 0, 0, 0, 0, 1, 0, 0, 0, 0, 1, 0]
theorem shape_in : ∀ k : Fin 21, PyKqk1.shape (k.val : Int) = some (((nums[k.val]?).getD 0).toNat, 0) := by decide
theorem nums_in : ∀ k : Fin 21, nums[k.val]? = some ((((nums[k.val]?).getD 0).toNat : Nat) : Int) := by decide
theorem shape_out {p : Int} (h : p < 0 ∨ 20 < p) : PyKqk1.shape p = none := by
  unfold PyKqk1.shape
  repeat rw [if_neg (by omega)]
theorem shape_some {p : Int} {n k : Nat} (h : PyKqk1.shape p = some (n, k)) : k = 0 ∧ 0 ≤ p ∧ p ≤ 20 ∧ nums[p.toNat]? = some (n : Int) := by
  by_cases hp : p < 0 ∨ 20 < p
  · rw [shape_out hp] at h
    cases h
  · have h1 : p = ((p.toNat : Nat) : Int) := by omega
    have h2 : p.toNat < 21 := by omega
    have a := shape_in ⟨p.toNat, h2⟩
    have b := nums_in ⟨p.toNat, h2⟩
    simp only at a b
    rw [← h1, h] at a
    have a' := Option.some.inj a
    have e1 : n = ((nums[p.toNat]?).getD 0).toNat := congrArg Prod.fst a'
    have e2 : k = 0 := congrArg Prod.snd a'
    refine ⟨e2, by omega, by omega, ?_⟩
    rw [e1]
    exact b
/-! ### the list of calls -/
abbrev Calls := List (List (List Int))
theorem calls_nil {f : Nat} : PyFlat.calls PyKqk1.shape f [] = some [] := by
  cases f <;> rfl
theorem calls_cons {f : Nat} {p : Int} {r : List Int} {cs : Calls} (h : PyFlat.calls PyKqk1.shape f (p :: r) = some cs) :
    ∃ (n f' : Nat) (cs' : Calls), 0 ≤ p ∧ p ≤ 20 ∧ nums[p.toNat]? = some (n : Int) ∧ n ≤ r.length ∧ PyFlat.calls PyKqk1.shape f' (r.drop n) = some cs' ∧ cs = [p :: r.take n] :: cs' := by
  cases f with
  | zero => cases h
  | succ f =>
    have h' : (match PyFlat.call PyKqk1.shape (p :: r) with
      | none => none
      | some (c, t) => match PyFlat.calls PyKqk1.shape f t with
        | none => none
        | some cs => some (c :: cs)) = some cs := h
    have hc : PyFlat.call PyKqk1.shape (p :: r) = match PyKqk1.shape p with
      | none => none
      | some (n, k) => if r.length < n then none else match PyFlat.rows k (r.drop n) with
        | none => none
        | some (xs, t) => some ((p :: r.take n) :: xs, t) := rfl
    cases hs : PyKqk1.shape p with
    | none =>
      rw [hs] at hc
      rw [hc] at h'
      cases h'
    | some nk =>
      obtain ⟨n, k⟩ := nk
      obtain ⟨rfl, h0, h20, hn⟩ := shape_some hs
      rw [hs] at hc
      by_cases hl : r.length < n
      · have hc' : PyFlat.call PyKqk1.shape (p :: r) = none := hc.trans (if_pos hl)
        rw [hc'] at h'
        cases h'
      · have hc' : PyFlat.call PyKqk1.shape (p :: r) = some ([p :: r.take n], r.drop n) := hc.trans (if_neg hl)
        rw [hc'] at h'
        cases hr : PyFlat.calls PyKqk1.shape f (r.drop n) with
        | none =>
          simp only [hr] at h'
          cases h'
        | some cs' =>
          simp only [hr] at h'
          exact ⟨n, f, cs', h0, h20, hn, by omega, hr, (Option.some.inj h').symm⟩
theorem whole_id (c : List (List Int)) : PyKqk1.whole c = c := by
  unfold PyKqk1.whole
  split <;> rfl
theorem map_whole (cs : Calls) : cs.map PyKqk1.whole = cs := by
  conv => rhs; rw [← List.map_id cs]
  exact List.map_congr_left fun c _ => whole_id c
theorem answers_eq {l : List Int} {cs : Calls} (h : PyFlat.calls PyKqk1.shape l.length l = some cs) : PyKqk1.answers l = PyFlat.told (PyFlat.played Kqk1Neutral.step Kqk1Neutral.start cs) := by
  unfold PyKqk1.answers PyKqk1.calls
  rw [h]
  show PyFlat.told (PyFlat.played Kqk1Neutral.step Kqk1Neutral.start (cs.map PyKqk1.whole)) = _
  rw [map_whole]
/-- what the row asks of a list of calls -/
theorem asked_calls {l : List Int} (h : PyKqk1.answers_asked l = true) : ∃ cs : Calls, PyFlat.calls PyKqk1.shape l.length l = some cs ∧ (∀ c ∈ cs, Kqk1Neutral.asked1 c = true) ∧ cs.length ≤ 200 ∧ (PyKqk1.answers l).length ≤ 10000000 := by
  unfold PyKqk1.answers_asked at h
  cases hc : PyFlat.calls PyKqk1.shape l.length l with
  | none =>
    rw [hc] at h
    cases h
  | some cs =>
    rw [hc] at h
    simp only [Bool.and_eq_true] at h
    obtain ⟨⟨⟨⟨h1, h2⟩, h3⟩, h4⟩, h5⟩ := h
    refine ⟨cs, rfl, ?_, of_decide_eq_true h2, of_decide_eq_true h5⟩
    rw [map_whole] at h4
    unfold Kqk1Neutral.asked at h4
    simp only [Bool.and_eq_true, List.all_eq_true] at h4
    exact h4.1.2.1
/-! ### requests -/
theorem asked_req {c : List (List Int)} (h : Kqk1Neutral.asked1 c = true) : ∃ q, Kqk1Neutral.requestOf c = some q := by
  unfold Kqk1Neutral.asked1 at h
  split at h <;> first | exact ⟨_, rfl⟩ | cases h
section
variable {l : List Int} {q : Request}
theorem req_0 (h : Kqk1Neutral.requestOf [0 :: l] = some q) : ∃ a, l = [a] ∧ q = .create a.toNat := by
  match l, h with
  | [a], h => exact ⟨a, rfl, (Option.some.inj h).symm⟩
  | [], h => cases h
  | _ :: _ :: _, h => cases h
theorem req_1 (h : Kqk1Neutral.requestOf [1 :: l] = some q) : ∃ a b, l = [a, b] ∧ q = .setRockCapacity a.toNat b.toNat := by
  match l, h with
  | [a, b], h => exact ⟨a, b, rfl, (Option.some.inj h).symm⟩
  | [], h => cases h
  | [_], h => cases h
  | _ :: _ :: _ :: _, h => cases h
theorem req_2 (h : Kqk1Neutral.requestOf [2 :: l] = some q) : ∃ a b, l = [a, b] ∧ q = .setTemperature a.toNat b.toNat := by
  match l, h with
  | [a, b], h => exact ⟨a, b, rfl, (Option.some.inj h).symm⟩
  | [], h => cases h
  | [_], h => cases h
  | _ :: _ :: _ :: _, h => cases h
theorem req_3 (h : Kqk1Neutral.requestOf [3 :: l] = some q) : ∃ a, l = [a] ∧ q = .setAllTemperatures a.toNat := by
  match l, h with
  | [a], h => exact ⟨a, rfl, (Option.some.inj h).symm⟩
  | [], h => cases h
  | _ :: _ :: _, h => cases h
theorem req_4 (h : Kqk1Neutral.requestOf [4 :: l] = some q) : ∃ a, l = [a] ∧ q = .setInjectionTemperature a.toNat := by
  match l, h with
  | [a], h => exact ⟨a, rfl, (Option.some.inj h).symm⟩
  | [], h => cases h
  | _ :: _ :: _, h => cases h
theorem req_5 (h : Kqk1Neutral.requestOf [5 :: l] = some q) : l = [] ∧ q = .advance := by
  match l, h with
  | [], h => exact ⟨rfl, (Option.some.inj h).symm⟩
  | _ :: _, h => cases h
theorem req_6 (h : Kqk1Neutral.requestOf [6 :: l] = some q) : ∃ a, l = [a] ∧ q = .advanceMany a.toNat := by
  match l, h with
  | [a], h => exact ⟨a, rfl, (Option.some.inj h).symm⟩
  | [], h => cases h
  | _ :: _ :: _, h => cases h
theorem req_7 (h : Kqk1Neutral.requestOf [7 :: l] = some q) : l = [] ∧ q = .equilibrate := by
  match l, h with
  | [], h => exact ⟨rfl, (Option.some.inj h).symm⟩
  | _ :: _, h => cases h
theorem req_8 (h : Kqk1Neutral.requestOf [8 :: l] = some q) : ∃ a, l = [a] ∧ q = .forecast a.toNat := by
  match l, h with
  | [a], h => exact ⟨a, rfl, (Option.some.inj h).symm⟩
  | [], h => cases h
  | _ :: _ :: _, h => cases h
theorem req_9 (h : Kqk1Neutral.requestOf [9 :: l] = some q) : ∃ a, l = [a] ∧ q = .getCell a.toNat := by
  match l, h with
  | [a], h => exact ⟨a, rfl, (Option.some.inj h).symm⟩
  | [], h => cases h
  | _ :: _ :: _, h => cases h
theorem req_10 (h : Kqk1Neutral.requestOf [10 :: l] = some q) : l = [] ∧ q = .totalHeat := by
  match l, h with
  | [], h => exact ⟨rfl, (Option.some.inj h).symm⟩
  | _ :: _, h => cases h
theorem req_11 (h : Kqk1Neutral.requestOf [11 :: l] = some q) : l = [] ∧ q = .balance := by
  match l, h with
  | [], h => exact ⟨rfl, (Option.some.inj h).symm⟩
  | _ :: _, h => cases h
theorem req_12 (h : Kqk1Neutral.requestOf [12 :: l] = some q) : l = [] ∧ q = .hottest := by
  match l, h with
  | [], h => exact ⟨rfl, (Option.some.inj h).symm⟩
  | _ :: _, h => cases h
theorem req_13 (h : Kqk1Neutral.requestOf [13 :: l] = some q) : l = [] ∧ q = .coldest := by
  match l, h with
  | [], h => exact ⟨rfl, (Option.some.inj h).symm⟩
  | _ :: _, h => cases h
theorem req_14 (h : Kqk1Neutral.requestOf [14 :: l] = some q) : ∃ a, l = [a] ∧ q = .breakthrough a.toNat := by
  match l, h with
  | [a], h => exact ⟨a, rfl, (Option.some.inj h).symm⟩
  | [], h => cases h
  | _ :: _ :: _, h => cases h
theorem req_15 (h : Kqk1Neutral.requestOf [15 :: l] = some q) : l = [] ∧ q = .saveProfile := by
  match l, h with
  | [], h => exact ⟨rfl, (Option.some.inj h).symm⟩
  | _ :: _, h => cases h
theorem req_16 (h : Kqk1Neutral.requestOf [16 :: l] = some q) : l = [] ∧ q = .compareWithSaved := by
  match l, h with
  | [], h => exact ⟨rfl, (Option.some.inj h).symm⟩
  | _ :: _, h => cases h
theorem req_17 (h : Kqk1Neutral.requestOf [17 :: l] = some q) : l = [] ∧ q = .averageWithSaved := by
  match l, h with
  | [], h => exact ⟨rfl, (Option.some.inj h).symm⟩
  | _ :: _, h => cases h
theorem req_18 (h : Kqk1Neutral.requestOf [18 :: l] = some q) : l = [] ∧ q = .reverse := by
  match l, h with
  | [], h => exact ⟨rfl, (Option.some.inj h).symm⟩
  | _ :: _, h => cases h
theorem req_19 (h : Kqk1Neutral.requestOf [19 :: l] = some q) : ∃ a, l = [a] ∧ q = .excessHeat a.toNat := by
  match l, h with
  | [a], h => exact ⟨a, rfl, (Option.some.inj h).symm⟩
  | [], h => cases h
  | _ :: _ :: _, h => cases h
theorem req_20 (h : Kqk1Neutral.requestOf [20 :: l] = some q) : l = [] ∧ q = .summary := by
  match l, h with
  | [], h => exact ⟨rfl, (Option.some.inj h).symm⟩
  | _ :: _, h => cases h
end
/-- ahead of a create all else is refused -/
theorem none_req {p : Int} {l : List Int} {q : Request} (hp : p ≠ 0) (h : Kqk1Neutral.requestOf [p :: l] = some q) : ∀ n, q ≠ .create n := by
  intro n e
  subst e
  unfold Kqk1Neutral.requestOf at h
  split at h
  case h_1 a e1 =>
    have e2 := (List.cons.inj e1).1
    exact hp (List.cons.inj e2).1
  all_goals cases h
theorem step_none {q : Request} (h : ∀ n, q ≠ .create n) : Kqk1.step none q = (none, .value (-11)) := by
  cases q <;> first | rfl | exact absurd rfl (h _)
theorem step_create {s : Option Reservoir} {n : Nat} : Kqk1.step s (.create n) = if n < 1 ∨ 8 < n then (s, .value (-22)) else (some (fresh n), .value 0) := by
  cases s <;> rfl
/-! ### the play -/
/-- the state behind some calls -/
def after : Option Reservoir → Calls → Option Reservoir
  | s, [] => s
  | s, c :: r => after (Kqk1Neutral.step s c).1 r
theorem after_snoc : ∀ (l : Calls) (s : Option Reservoir) (c : List (List Int)), after s (l ++ [c]) = (Kqk1Neutral.step (after s l) c).1
  | [], _, _ => rfl
  | d :: l, s, c => after_snoc l (Kqk1Neutral.step s d).1 c
theorem played_snoc : ∀ (l : Calls) (s : Option Reservoir) (c : List (List Int)), PyFlat.played Kqk1Neutral.step s (l ++ [c]) = PyFlat.played Kqk1Neutral.step s l ++ [(Kqk1Neutral.step (after s l) c).2]
  | [], _, _ => rfl
  | d :: l, s, c => by
    show (Kqk1Neutral.step s d).2 :: PyFlat.played Kqk1Neutral.step (Kqk1Neutral.step s d).1 (l ++ [c]) = _
    rw [played_snoc l]
    rfl
theorem told_snoc (l : List (List Int)) (a : List Int) : PyFlat.told (l ++ [a]) = PyFlat.told l ++ ((a.length : Int) :: a) := by
  unfold PyFlat.told
  rw [List.flatMap_append]
  simp
theorem told_le {l m : List (List Int)} : (PyFlat.told l).length ≤ (PyFlat.told (l ++ m)).length := by
  unfold PyFlat.told
  rw [List.flatMap_append, List.length_append]
  omega
theorem played_app : ∀ (l m : Calls) (s : Option Reservoir), ∃ k, PyFlat.played Kqk1Neutral.step s (l ++ m) = PyFlat.played Kqk1Neutral.step s l ++ k
  | [], m, s => ⟨_, rfl⟩
  | d :: l, m, s => by
    obtain ⟨k, e⟩ := played_app l m (Kqk1Neutral.step s d).1
    refine ⟨k, ?_⟩
    show (Kqk1Neutral.step s d).2 :: PyFlat.played Kqk1Neutral.step (Kqk1Neutral.step s d).1 (l ++ m) = _
    rw [e]
    rfl
theorem step_req {s : Option Reservoir} {c : List (List Int)} {q : Request} (h : Kqk1Neutral.requestOf c = some q) : Kqk1Neutral.step s c = ((Kqk1.step s q).1, Kqk1Neutral.fields (Kqk1.step s q).2) := by
  unfold Kqk1Neutral.step
  rw [h]
theorem ok_after {B : Nat} {s : Option Reservoir} {q : Request} (o : ∀ r, s = some r → Ok B r) : ∀ r, (Kqk1.step s q).1 = some r → Ok (B + 6000) r := by
  intro r h
  cases s with
  | some r0 => exact ok_next (o r0 rfl) h
  | none =>
    by_cases hc : ∃ n, q = .create n
    · obtain ⟨n, rfl⟩ := hc
      rw [step_create] at h
      by_cases hn : n < 1 ∨ 8 < n
      · rw [if_pos hn] at h
        cases h
      · rw [if_neg hn] at h
        cases h
        exact (ok_fresh hn).mono (by omega)
    · rw [step_none fun n e => hc ⟨n, e⟩] at h
      cases h
end Cf

end
section
/-! An own error over Exception whose __init__ says Exception.__init__(self, code) and self.code = code: what the library's module for ValueError says, turned to Exception. -/
namespace L2.CfX
open PySem PySem.Spec PyProof.Rows L2
/-- what the written part says of the error's class at C -/
structure RefC (K : PySem.W.Frag) (C : Addr) : Prop where
  obj : ∃ nm q N bs sn sub ab col dd m0 m1 m2 m3 m5, K.lookup C = some (excClassObj nm q C N bs PySem.ESX.exTail true sn sub ab col dd m0 m1 m2 m3 m5 "Exception.__new__")
  setter : PySem.W.findIn K (.ref C) "__setattr__" = some (some (.builtin "object.__setattr__"))
  isExc : PySem.W.subIn K (.ref C) (.type "BaseException") = some true
  isTy : PySem.W.typeIn K (.ref C) = some (.type "type")
  kept : PySem.W.keepIn K (.ref C) = true
theorem tail_alike : ∀ Y : String, PySem.ESX.exTail.contains (.type Y) = ([.type "Exception", .type "BaseException", .type "object"] : List Value).contains (.type Y) := fun _ => rfl
section
variable {X : Cx} {pins : List (Addr × Obj)} {σ : St} {H : Hp} {s : Shared} {a C : Addr} {f : Str} {y : V} {u : Value} {E : Value → Shared → Prop} {A : Around}
/-- the first field of a fresh error: its own dict is made -/
theorem rf_store {Q : Unit → Shared → Prop} (T : RefC X.K C) (I : Inv X pins σ H s) (e : H a = some (exo a C none)) (hno : PySem.W.findIn X.K (.ref C) f = some none) (ry : RelV y u)
    (h : ∀ dn s', H dn = none → dn ≠ a → Inv X pins σ (upd (upd H dn (exd dn [(f, y)])) a (exo a C (some dn))) s' → Q () s') : wpAny (model X.prog X.w) A (setAttr (.ref a) f u) Q E s := by
  obtain ⟨nm, q, N, bs, sn, sub, ab, col, dd, m0, m1, m2, m3, m5, hC⟩ := T.obj
  have hcl : PySem.W.clsIn X.K C = some { name := nm, bases := bs, mro := .ref C :: PySem.ESX.exTail, ns := N, qualname := q, hasDict := true, slotNames := sn, subclasses := sub, abstract := ab, collection := col, hasDel := false } := by
    unfold PySem.W.clsIn
    rw [hC] <;> rfl
  obtain ⟨tp, ho⟩ := exo_at I.hok e
  obtain ⟨hp, g, dr, t, os⟩ := s
  have I0 : PySem.W.InstAt hp a { cls := .ref C, dict := none, data := .fields #[.ref tp, .none, .none, .none, .bool false, .none] } C none := ⟨ho, rfl, rfl, trivial⟩
  refine PySem.W.set_plain I.kIn I0 T.setter ?_
  refine PySem.ESX.osa_new I.kIn ho hcl rfl rfl hno (fun h' tk dn kp big ne hx hn => ?_)
  have free : H dn = none := I.hok.fresh big
  have old : ∀ {b : Addr} {o : Obj}, hp.get? b = some o → b ≠ dn := fun {b o} z => Nat.ne_of_lt (Nat.lt_of_lt_of_le (Heap.lt_size z) big)
  have off : ∀ {b : Addr}, H b = none → b ≠ a := fun {b} n z => by
    rw [z, e] at n
    cases n
  refine h dn _ free ne (I.un (t' := tk) (H' := upd (upd H dn (exd dn [(f, y)])) a (exo a C (some dn))) (h' := h') ⟨?_, ?_, ?_, ?_, ?_, ?_, ?_⟩ ?_)
  · exact fun b o z n _ _ => kp b o (off n) z
  · exact fun b o z n _ _ => ⟨o.slots, kp b o (off n) z⟩
  · intro b o z n _
    rw [upd_ne (off n), upd_ne (old z)]
    exact n
  · intro b o z _
    by_cases hb : b = a
    · exact ⟨_, hb ▸ hx⟩
    · exact ⟨o, kp b o hb z⟩
  · intro b xs z
    rw [upd_ne (at_ne e z exo_tup), upd_ne (ne_of_none z free)]
    exact z
  · intro b o v z
    rw [upd_ne (at_ne e z exo_frz), upd_ne (ne_of_none z free)]
    exact z
  · intro b ps z
    refine ⟨#[], ?_⟩
    rw [upd_ne (at_ne e z exo_tbl), upd_ne (ne_of_none z free), z]
    simp
  · intro b o z
    by_cases hb : b = a
    · subst hb
      rw [upd_same] at z
      cases z
      exact exo_ok hx
    · rw [upd_ne hb] at z
      by_cases hd : b = dn
      · subst hd
        rw [upd_same] at z
        cases z
        exact exd_ok hn (relO_put (fs := []) ry fun g => True.intro)
      · rw [upd_ne hd] at z
        refine (I.hok b o z).stay (fun c v hc w => kp c v ?_ w) (fun c hc => ?_) fun c xs hc => ?_
        · rcases hc with hc | hc
          · rw [hc]
            exact hb
          · exact at_ne e hc exo_own
        · rw [upd_ne (at_ne e hc exo_own), upd_ne (ne_of_none hc free)]
          exact hc
        · rw [upd_ne (at_ne e hc exo_tup), upd_ne (ne_of_none hc free)]
          exact hc
/-- Exception.__init__(self, ..) leaves a fresh error as it was -/
theorem rf_base {us : List Value} {Q : Value → Shared → Prop} (T : RefC X.K C) (I : Inv X pins σ H s) (e : H a = some (exo a C none)) (hl : us.length ≤ sizeLine) (h : ∀ s', Inv X pins σ H s' → Q .none s') :
    wpAny (model X.prog X.w) A (call (.builtin "Exception.__init__") (.ref a :: us)) Q E s := by
  obtain ⟨nm, q, N, bs, sn, sub, ab, col, dd, m0, m1, m2, m3, m5, hC⟩ := T.obj
  obtain ⟨tp, ho⟩ := exo_at I.hok e
  obtain ⟨hp, g, dr, t, os⟩ := s
  refine wpAny_call (PySem.HandSPX.init_base PySem.F.excBase_Exception tail_alike (I.kIn _ _ hC) ho hl fun h' tn kp hx => ?_)
  have mu : Mut (H a) := by
    rw [e]
    trivial
  have J := I.write (t' := t) (x := a) (e := a) (o := exo a C none) mu (.inl rfl) kp ⟨_, hx⟩ (exo_ok hx)
  have same : upd H a (exo a C none) = H := by
    funext b
    by_cases hb : b = a
    · subst hb
      rw [upd_same, e]
    · rw [upd_ne hb]
  exact h _ (same ▸ J)
end
/-- the reading of Exception.__init__(self, ..) -/
def tBase (K : PySem.W.Frag) (ta : TA) : TE := fun σ H Q => ta σ H fun vs H1 => ∃ (a C : Addr) (ws : List V), vs = .ref a :: ws ∧ ws.length ≤ 1000 ∧ RefC K C ∧ H1 a = some (exo a C none) ∧ Q .non H1
/-- the reading of self.f = e, the error's first field -/
def tField (K : PySem.W.Frag) (f : Str) (to te : TE) : TS := fun D σ H => te σ H fun y H1 => to σ H1 fun x H2 => ∃ a C : Addr, x = .ref a ∧ RefC K C ∧ PySem.W.findIn K (.ref C) f = some none ∧
  H2 a = some (exo a C none) ∧ ∀ dn, H2 dn = none → dn ≠ a → D.nx σ (upd (upd H2 dn (exd dn [(f, y)])) a (exo a C (some dn)))
theorem typ_exc : typeOf (.type "Exception") = pure (.type "type") := by kernel_rfl
section
variable {X : Cx} {o e : Expr} {es : List Expr} {to te : TE} {ta : TA} {f : Str} {p pa p1 p2 pos : Pos}
theorem pe_base {pl : Sem Bool} (hg : Gl X "Exception") (hm : X.mg "Exception" = none) (hv : bootBuiltins "Exception" = some (.type "Exception")) (vV : PySem.W.findCls X.K (.type "Exception") (.type "type") "__init__" = some (.val (.builtin "Exception.__init__"))) (ha : PA X (e :: es) ta)
    (hc : eval (.Call (.Attribute (.Name "Exception" p1) "__init__" p2) (e :: es) [] pos) X.env = (do
      let ov ← eval (.Name "Exception" p1) X.env
      standAt p2.atName
      let (f, first) ← holding [ov] (getMethod ov "__init__" pl)
      callWith pos f first (backTo pos (starEach (e :: es) X.env)) (backToKw pos (keywordEach [] X.env))) := by rfl)
    (he : starEach (e :: es) X.env = (false, eval e X.env) :: starEach es X.env := by rfl) (hpl : (backTo pos (starEach es X.env)).any (·.1) = false := by rfl) :
    PE X (.Call (.Attribute (.Name "Exception" p1) "__init__" p2) (e :: es) [] pos) (tBase X.K ta) := by
  refine ⟨fun pins s σ H Q I h => ?_⟩
  refine PySem.W.methodCall_KW (ld_blt I hg hm hv ?_ (by decide) (by decide)) hc
  obtain ⟨m, fr⟩ := I.fr
  refine PySem.W.method_type fr I.ok.mod.kin typ_exc (by decide +kernel) vV (by decide +kernel) ?_
  show wpAny _ _ (callWith pos (Value.builtin "Exception.__init__") [] (backTo pos (starEach (e :: es) X.env)) []) _ _ _
  refine PyProof.Rows.callWith_method1 (thn (ha.run pos pins _ σ H _ (I.tok _) h) fun us s1 hh => ?_) he hpl
  obtain ⟨vs, H1, I1, r1, a, C, ws, ev, hl, T, ea, q⟩ := hh
  subst ev
  cases r1 with
  | @cons _ u0 _ ur ra rw' =>
    have hu : u0 = Value.ref a := ra
    subst hu
    have hlen : ur.length ≤ sizeLine := by
      rw [← Paired.length rw', sizeLine_eq]
      omega
    exact rf_base T I1 ea hlen fun s' J => ⟨.non, H1, J, rfl, q⟩
theorem ps_field (ho : PE X o to) (he : PE X e te) (hs : swapsWith e (some (.Attribute o f pa)) pos.line X.env = pure false := by rfl) : PS X (.Assign [.Attribute o f pa] e pos) (tField X.K f to te) := by
  refine ⟨fun pins s σ H D I h => ?_⟩
  refine plainObj_wpAny_Assign_Attribute (thn (he.run pins s σ H _ I h) fun v s1 h1 => ?_) hs
  obtain ⟨y, H1, I1, r1, q1⟩ := h1
  refine thn (ho.run pins s1 σ H1 _ I1 q1) fun u s2 h2 => ?_
  obtain ⟨x, H2, I2, r2, a, C, ex, T, hno, ea, q⟩ := h2
  subst ex
  have hu : u = Value.ref a := r2
  subst hu
  exact rf_store T I2 ea hno r1 fun dn s' n ne J => ⟨σ, _, J, q dn n ne⟩
/-- C(e, ..): the error is made, its __init__ keeps sp -/
theorem pmk_ref {CX : CXT} {x : Str} {C fI : Addr} {k : Nat} {fd : FuncData} {ps : List Str} {sp : Sp} (T : RefC X.K C) (iC : PySem.W.findIn X.K (.ref C) "__init__" = some (some (.ref fI))) (tI : PySem.W.typeIn X.K (.ref fI) = some (.type "function"))
    (F1 : FnOk X.prog X.w X.K X.mg X.base CX k fI fd ps sp) (hr : Room (k + 1) X.A) (hb : Binds X.K fd ps []) (hx : Passes CX X (fun _ _ _ => False)) (hg : Gl X x) (hm : X.mg x = some (.ref C)) (ha : PA X (e :: es) ta)
    (hdb : (x == ("__debug__" : Str)) = false := by decide) (he : starEach (e :: es) X.env = (false, eval e X.env) :: starEach es X.env := by rfl) (hpl : (backTo pos (starEach es X.env)).any (·.1) = false := by rfl) :
    PMk X (.Call (.Name x p) (e :: es) [] pos) (tMkO C sp [] ta) := by
  intro pins s σ H Q I h
  obtain ⟨nm, q, N, bs, sn, sub, ab, col, dd, m0, m1, m2, m3, m5, hC⟩ := T.obj
  refine wpAny_Call_Name_kw (ld_glob I hg hm ?_ hdb)
  refine PySem.W.callWith_K (h₀ := X.base) I.ok.mod.kin T.kept (thn (ha.run pos pins s σ H _ I h) fun us s1 hh => ?_) he hpl
  obtain ⟨vs, H1, I1, r1, hz, q1⟩ := hh
  refine ⟨I1.kIn, ?_⟩
  show wpAny _ _ (call (.ref C) us) _ _ _
  obtain ⟨hp, g, dr, tk, os⟩ := s1
  have big : hp.objs.size ≤ hp.objs.size + 1 := Nat.le_succ _
  have hq := q1 (hp.objs.size + 1) (I1.hok.fresh big)
  rw [List.append_nil] at hq
  have kk : ∀ b o, hp.get? b = some o → ((hp.push (PySem.W.kdv_tup us)).push (PySem.HandSPX.excO C hp.objs.size)).get? b = some o := fun b o z => Heap.get?_push_of_some _ (Heap.get?_push_of_some _ z)
  have at1 : ((hp.push (PySem.W.kdv_tup us)).push (PySem.HandSPX.excO C hp.objs.size)).get? (hp.objs.size + 1) = some (PySem.HandSPX.excO C hp.objs.size) := by heap_get
  have I2 := I1.laid (t' := tk) (a := hp.objs.size + 1) (o := exo (hp.objs.size + 1) C none) kk big (exo_ok at1)
  have r2 : Vals (V.ref (hp.objs.size + 1) :: vs) (Value.ref (hp.objs.size + 1) :: us) := .cons rfl r1
  have hl : (Value.ref (hp.objs.size + 1) :: us).length = ps.length := by
    rw [← r2.length]
    exact F1.len _ _ _ _ hq
  have hus : us.length ≤ sizeLine := by
    rw [← Paired.length r1, sizeLine_eq]
    omega
  have bd := hb _ (Value.ref (hp.objs.size + 1) :: us) I2.kIn (by rw [List.append_nil]; exact hl)
  rw [List.append_nil] at bd
  refine wpAny_call (PySem.HandSPX.call_own PySem.F.excBase_Exception tail_alike (I1.kIn _ _ hC) (PySem.W.looks_findIn I1.kIn iC) (fun self => PySem.W.bind_fn I1.kIn self tI) hus ?_)
  refine codeAny_mono (F1.run _ X.stack _ _ ⟨Value.ref (hp.objs.size + 1) :: us, []⟩ _ _ _ (fun _ _ _ => False) (hr.make C us []) (I2.env0.make C us []) bd r2 hq) fun r s' back => ?_
  cases r with
  | error er => exact hx pins σ _ _ er s' I2 back
  | ok fl =>
    cases fl with
    | next => exact False.elim back
    | brk => exact False.elim back
    | cont => exact False.elim back
    | ret v0 =>
      obtain ⟨v, H2, os2, bare2, un2, hok2, rv, ev, d, fs, ea, ed, hd1, q2⟩ := back
      subst ev
      obtain ⟨h2, g2, d2, t2, os'⟩ := s'
      exact ⟨rv, mk_end (raises_own T.isExc T.isTy) I1 big kk un2 hok2 os2 bare2 ea ed hd1 q2⟩
end
end L2.CfX

end
section
/-! How fractions, cells and rows lie in the heap; comprehensions and loops over them; the promises of the defs. -/
namespace L2.CfX
open PySem PySem.Spec PyProof.Rows L2
open Kqk1 (Cell Reservoir Request Result)
open Cf (Sm Bd CellSm RowSm StepsSm SumSm RowOk advN outs temps caps nowhere small sumR moved)
/-! ### tuples -/
/-- a tuple of the text's top -/
def KTup (K : PySem.W.Frag) (a : Addr) (xs : List V) : Prop :=
  ∃ (o : Obj) (its : Array Value) (n : Nat), K.lookup a = some o ∧ o.cls = .type "tuple" ∧ o.data = .seq its n ∧ its.size ≤ sizeLine ∧ Vals xs its.toList
def TupAt (K : PySem.W.Frag) (H : Hp) (a : Addr) (xs : List V) : Prop := H a = some (.tup xs) ∨ KTup K a xs
/-- all tuples stay -/
def TK (H H' : Hp) : Prop := ∀ b xs, H b = some (.tup xs) → H' b = some (.tup xs)
section
variable {K : PySem.W.Frag} {H H' H1 H2 : Hp} {a p : Addr} {xs : List V}
theorem TupAt.sq (h : TupAt K H a xs) : SqT K H a xs := h.elim (fun e => .inl (.inl e)) .inr
theorem TupAt.of (h : H a = some (.tup xs)) : TupAt K H a xs := .inl h
theorem TupAt.keep (h : TupAt K H a xs) (t : TK H H') : TupAt K H' a xs := h.elim (fun e => .inl (t _ _ e)) .inr
theorem TK.refl : TK H H := fun _ _ e => e
theorem TK.trans (s : TK H H1) (t : TK H1 H2) : TK H H2 := fun b xs e => t b xs (s b xs e)
theorem TK.of (s : Same H H') : TK H H' := fun b xs e => s b _ e
theorem TK.chg {o : HO} (h : ∀ xs, H p ≠ some (.tup xs)) : TK H (upd H p o) := fun b xs e => by
  have hb : b ≠ p := fun z => h xs (z ▸ e)
  rw [upd_ne hb]
  exact e
theorem TK.new {o : HO} (h : H p = none) : TK H (upd H p o) := TK.chg fun xs e => by rw [h] at e; cases e
theorem TK.lst {o : HO} {l : List V} (h : H p = some (.lst l)) : TK H (upd H p o) := TK.chg fun xs e => by rw [h] at e; cases e
theorem Same.new {o : HO} (h : H p = none) : Same H (upd H p o) := fun b u e => by
  rw [upd_ne (ne_of_none e h)]
  exact e
end
/-! ### fractions, cells, lists of them -/
def frV (q : Rat) : List V := [.int q.num, .int (q.den : Int)]
abbrev FrAt (K : PySem.W.Frag) (H : Hp) (a : Addr) (q : Rat) : Prop := TupAt K H a (frV q)
def CellAt (K : PySem.W.Frag) (H : Hp) (a : Addr) (c : Cell) : Prop := ∃ ra wa, TupAt K H a [.int (c.rockCapacity : Int), .ref ra, .ref wa] ∧ FrAt K H ra c.rock ∧ FrAt K H wa c.water
/-- what hangs on tuples alone -/
def Stab {α : Type} (P : Hp → Addr → α → Prop) : Prop := ∀ H H' a z, TK H H' → P H a z → P H' a z
theorem stab_fr {K : PySem.W.Frag} : Stab (FrAt K) := fun _ _ _ _ t h => h.keep t
theorem stab_cell {K : PySem.W.Frag} : Stab (CellAt K) := fun _ _ _ _ t ⟨ra, wa, h1, h2, h3⟩ => ⟨ra, wa, h1.keep t, h2.keep t, h3.keep t⟩
theorem CellAt.keep {K : PySem.W.Frag} {H H' : Hp} {a : Addr} {c : Cell} (h : CellAt K H a c) (t : TK H H') : CellAt K H' a c := stab_cell _ _ _ _ t h
structure SeqOf {α : Type} (P : Addr → α → Prop) (as : List Addr) (zs : List α) : Prop where
  len : as.length = zs.length
  get : ∀ (i : Nat) (a : Addr) (z : α), as[i]? = some a → zs[i]? = some z → P a z
def LsAt {α : Type} (P : Hp → Addr → α → Prop) (H : Hp) (a : Addr) (zs : List α) : Prop := ∃ as : List Addr, H a = some (.lst (as.map V.ref)) ∧ SeqOf (P H) as zs
abbrev RowAt (K : PySem.W.Frag) : Hp → Addr → List Cell → Prop := LsAt (CellAt K)
abbrev FrsAt (K : PySem.W.Frag) : Hp → Addr → List Rat → Prop := LsAt (FrAt K)
section
variable {α : Type} {P : Hp → Addr → α → Prop} {H H' : Hp} {a : Addr} {as bs : List Addr} {zs ws : List α} {z : α}
theorem SeqOf.mono {Q : Addr → α → Prop} {P : Addr → α → Prop} (h : SeqOf P as zs) (k : ∀ a z, P a z → Q a z) : SeqOf Q as zs := ⟨h.len, fun i a z e f => k a z (h.get i a z e f)⟩
theorem SeqOf.nil {P : Addr → α → Prop} : SeqOf P [] [] := ⟨rfl, fun i a z e => by simp at e⟩
theorem SeqOf.append {P : Addr → α → Prop} (h : SeqOf P as zs) (k : SeqOf P bs ws) : SeqOf P (as ++ bs) (zs ++ ws) := by
  refine ⟨by rw [List.length_append, List.length_append, h.len, k.len], fun i a z e f => ?_⟩
  by_cases hi : i < as.length
  · rw [List.getElem?_append_left hi] at e
    rw [List.getElem?_append_left (by rw [← h.len]; exact hi)] at f
    exact h.get i a z e f
  · have hi' := Nat.not_lt.mp hi
    rw [List.getElem?_append_right hi'] at e
    rw [List.getElem?_append_right (by rw [← h.len]; exact hi'), ← h.len] at f
    exact k.get _ a z e f
theorem SeqOf.one {P : Addr → α → Prop} {a : Addr} (h : P a z) : SeqOf P [a] [z] := by
  refine ⟨rfl, fun i b y e f => ?_⟩
  cases i with
  | zero =>
    have e' := Option.some.inj e
    have f' := Option.some.inj f
    subst e' f'
    exact h
  | succ i => simp at e
theorem SeqOf.take {P : Addr → α → Prop} (n : Nat) (h : SeqOf P as zs) : SeqOf P (as.take n) (zs.take n) := by
  refine ⟨by rw [List.length_take, List.length_take, h.len], fun i a z e f => ?_⟩
  rw [List.getElem?_take] at e f
  by_cases hi : i < n
  · rw [if_pos hi] at e f
    exact h.get i a z e f
  · rw [if_neg hi] at e
    cases e
theorem SeqOf.drop {P : Addr → α → Prop} (n : Nat) (h : SeqOf P as zs) : SeqOf P (as.drop n) (zs.drop n) := by
  refine ⟨by rw [List.length_drop, List.length_drop, h.len], fun i a z e f => ?_⟩
  rw [List.getElem?_drop] at e f
  exact h.get _ a z e f
theorem SeqOf.reverse {P : Addr → α → Prop} (h : SeqOf P as zs) : SeqOf P as.reverse zs.reverse := by
  refine ⟨by rw [List.length_reverse, List.length_reverse, h.len], fun i a z e f => ?_⟩
  have hi : i < as.length := by
    have := (List.getElem?_eq_some_iff.mp e).1
    rwa [List.length_reverse] at this
  rw [List.getElem?_reverse hi] at e
  rw [List.getElem?_reverse (by rw [← h.len]; exact hi), ← h.len] at f
  exact h.get _ a z e f
theorem SeqOf.map {β : Type} {P : Addr → α → Prop} {Q : Addr → β → Prop} {f : α → β} (h : SeqOf P as zs) (k : ∀ a z, P a z → Q a (f z)) : SeqOf Q as (zs.map f) := by
  refine ⟨by rw [List.length_map, h.len], fun i a y e g => ?_⟩
  rw [List.getElem?_map] at g
  cases hz : zs[i]? with
  | none =>
    rw [hz] at g
    cases g
  | some z =>
    rw [hz] at g
    have g' : f z = y := Option.some.inj g
    subst g'
    exact k a z (h.get i a z e hz)
theorem SeqOf.at {P : Addr → α → Prop} {i : Nat} (h : SeqOf P as zs) (e : zs[i]? = some z) : ∃ a, as[i]? = some a ∧ P a z := by
  have hi : i < as.length := by
    rw [h.len]
    exact (List.getElem?_eq_some_iff.mp e).1
  exact ⟨as[i], List.getElem?_eq_getElem hi, h.get i _ z (List.getElem?_eq_getElem hi) e⟩
theorem SeqOf.of_at {P : Addr → α → Prop} {i : Nat} {b : Addr} (h : SeqOf P as zs) (e : as[i]? = some b) : ∃ z, zs[i]? = some z ∧ P b z := by
  have hi : i < zs.length := by
    rw [← h.len]
    exact (List.getElem?_eq_some_iff.mp e).1
  exact ⟨zs[i], List.getElem?_eq_getElem hi, h.get i b _ e (List.getElem?_eq_getElem hi)⟩
theorem ref_at {i : Nat} {x : V} (e : (as.map V.ref)[i]? = some x) : ∃ b, as[i]? = some b ∧ x = .ref b := by
  rw [List.getElem?_map] at e
  cases h : as[i]? with
  | none =>
    rw [h] at e
    cases e
  | some b =>
    rw [h] at e
    exact ⟨b, rfl, (Option.some.inj e).symm⟩
theorem at_ref {i : Nat} {b : Addr} (e : as[i]? = some b) : (as.map V.ref)[i]? = some (.ref b) := by
  rw [List.getElem?_map, e] <;> rfl
/-- a list of ours stays where its own object and all tuples stay -/
theorem LsAt.keep (sP : Stab P) (h : LsAt P H a zs) (e : ∀ o, H a = some o → H' a = some o) (t : TK H H') : LsAt P H' a zs := by
  obtain ⟨as, h1, h2⟩ := h
  exact ⟨as, e _ h1, h2.mono fun b z q => sP _ _ _ _ t q⟩
theorem LsAt.same (sP : Stab P) (h : LsAt P H a zs) (s : Same H H') : LsAt P H' a zs := h.keep sP (fun o e => s _ o e) (TK.of s)
theorem map_ref_inj {as bs : List Addr} (h : as.map V.ref = bs.map V.ref) : as = bs := by
  have := congrArg (List.map fun v => match v with | V.ref b => b | _ => 0) h
  simpa [List.map_map, Function.comp_def] using this
/-- from the items one by one -/
theorem refs_of {P : Addr → α → Prop} {acc : List V} (hl : acc.length = zs.length) (h : ∀ (j : Nat) (y : V), acc[j]? = some y → ∃ b z, y = V.ref b ∧ zs[j]? = some z ∧ P b z) : ∃ as : List Addr, acc = as.map V.ref ∧ SeqOf P as zs := by
  refine ⟨acc.map fun v => match v with | V.ref b => b | _ => 0, ?_, ?_, ?_⟩
  · apply List.ext_getElem?
    intro j
    rw [List.getElem?_map, List.getElem?_map]
    cases hj : acc[j]? with
    | none => rfl
    | some y =>
      obtain ⟨b, z, rfl, _⟩ := h j y hj
      rfl
  · rw [List.length_map, hl]
  · intro j a z e f
    rw [List.getElem?_map] at e
    cases hj : acc[j]? with
    | none =>
      rw [hj] at e
      cases e
    | some y =>
      rw [hj] at e
      obtain ⟨b, w, rfl, hw, q⟩ := h j y hj
      have e' : b = a := Option.some.inj e
      subst e'
      rw [hw] at f
      cases f
      exact q
end
/-! ### a comprehension whose items are told one by one -/
theorem lc_build {J : It} {n : Nat} {G : Hp → Prop} {Y : Nat → Hp → V → Hp → Prop} (w : Walk J n G Y) {g : TG} {te : TE} {vs : List Nat} {σ : L2.St} {H1 : Hp} {D : Addr} {Qd : Hp → Prop} (hD : H1 D = none) (R : Nat → V → Hp → Prop) (stab : ∀ j y H H', TK H H' → R j y H → R j y H')
    (hn : n < sizeLine) (hG : ∀ H, Same H1 H → G H) (hY : ∀ i H x H', Y i H x H' → Same H H')
    (hs : ∀ i x H H', i < n → Same H1 H → Y i H x H' → ∀ Q4 : V → Hp → Prop, (∀ y H4, Same H' H4 → R i y H4 → Q4 y H4) → g x (wipe σ vs) H' fun σ2 H2 => wipe σ2 vs = wipe σ vs ∧ te σ2 H2 Q4)
    (hd : ∀ H acc, Same H1 H → H D = some (.lst acc) → acc.length = n → (∀ j y, acc[j]? = some y → R j y H) → Qd H) :
    ∃ W : Nat → Nat → Hp → Prop, (∃ m, W 0 m (upd H1 D (.lst []))) ∧ ∀ i m H, W i m H → (J.stop i H ∧ Qd H) ∨ (J.go i H ∧ ∃ Nx : Hp → Prop, (∀ H', Nx H' → ∃ m', m' < m ∧ W (i + 1) m' H') ∧ ∀ x H', J.yld i H x H' →
      g x (wipe σ vs) H' fun σ2 H2 => wipe σ2 vs = wipe σ vs ∧ tYes σ2 H2 fun b H3 => if b = true then te σ2 H3 fun y H4 => ∃ acc, H4 D = some (.lst acc) ∧ acc.length < sizeLine ∧ Nx (upd H4 D (.lst (acc ++ [y]))) else Nx H3) := by
  refine lc_it w (fun i H => Same H1 H ∧ ∃ acc, H D = some (.lst acc) ∧ acc.length = i ∧ ∀ j y, acc[j]? = some y → R j y H) ?_ (fun i H _ h => hG H h.1) ?_ ?_
  · exact ⟨Same.new hD, [], upd_same, rfl, fun j y e => by simp at e⟩
  · rintro i x H H' hi ⟨s1, acc, ea, el, er⟩ yy
    have sY := hY i H x H' yy
    have q := hs i x H H' hi s1 yy (fun v H4 => ∃ acc, H4 D = some (.lst acc) ∧ acc.length < sizeLine ∧ (Same H1 (upd H4 D (.lst (acc ++ [v]))) ∧ ∃ acc', upd H4 D (.lst (acc ++ [v])) D = some (.lst acc') ∧ acc'.length = i + 1 ∧ ∀ j y, acc'[j]? = some y → R j y (upd H4 D (.lst (acc ++ [v]))))) (fun v H4 s4 rv => by
      have eD : H4 D = some (.lst acc) := s4 _ _ (sY _ _ ea)
      have tD : TK H4 (upd H4 D (.lst (acc ++ [v]))) := TK.lst eD
      refine ⟨acc, eD, by omega, fun b o e => ?_, acc ++ [v], upd_same, by rw [List.length_append, el]; rfl, fun j y e => ?_⟩
      · rw [upd_ne (ne_of_none e hD)]
        exact s4 _ _ (sY _ _ (s1 _ _ e))
      · by_cases hj : j < acc.length
        · rw [List.getElem?_append_left hj] at e
          exact stab j y _ _ tD (stab j y _ _ (TK.of s4) (stab j y _ _ (TK.of sY) (er j y e)))
        · rw [List.getElem?_append_right (Nat.not_lt.mp hj)] at e
          have hj2 : j = i := by
            have := (List.getElem?_eq_some_iff.mp e).1
            simp at this
            omega
          subst hj2
          rw [el, Nat.sub_self] at e
          have e' : v = y := Option.some.inj e
          subst e'
          exact stab j v _ _ tD rv)
    exact q
  · rintro H ⟨s1, acc, ea, el, er⟩
    exact hd H acc s1 ea el er
/-- .. whose items are refs to what zs tells -/
theorem lc_refs {α : Type} {P : Hp → Addr → α → Prop} (sP : Stab P) {J : It} {n : Nat} {G : Hp → Prop} {Y : Nat → Hp → V → Hp → Prop} (w : Walk J n G Y) (zs : List α) (hz : zs.length = n) {g : TG} {te : TE} {vs : List Nat} {σ : L2.St} {H1 : Hp} {D : Addr} {Qd : Hp → Prop} (hD : H1 D = none)
    (hn : n < sizeLine) (hG : ∀ H, Same H1 H → G H) (hY : ∀ i H x H', Y i H x H' → Same H H')
    (hs : ∀ i x H H' z, i < n → zs[i]? = some z → Same H1 H → Y i H x H' → ∀ Q4 : V → Hp → Prop, (∀ b H4, Same H' H4 → P H4 b z → Q4 (.ref b) H4) → g x (wipe σ vs) H' fun σ2 H2 => wipe σ2 vs = wipe σ vs ∧ te σ2 H2 Q4)
    (hd : ∀ H, Same H1 H → LsAt P H D zs → Qd H) :
    ∃ W : Nat → Nat → Hp → Prop, (∃ m, W 0 m (upd H1 D (.lst []))) ∧ ∀ i m H, W i m H → (J.stop i H ∧ Qd H) ∨ (J.go i H ∧ ∃ Nx : Hp → Prop, (∀ H', Nx H' → ∃ m', m' < m ∧ W (i + 1) m' H') ∧ ∀ x H', J.yld i H x H' →
      g x (wipe σ vs) H' fun σ2 H2 => wipe σ2 vs = wipe σ vs ∧ tYes σ2 H2 fun b H3 => if b = true then te σ2 H3 fun y H4 => ∃ acc, H4 D = some (.lst acc) ∧ acc.length < sizeLine ∧ Nx (upd H4 D (.lst (acc ++ [y]))) else Nx H3) := by
  refine lc_build w hD (fun j y H => ∃ b z, y = .ref b ∧ zs[j]? = some z ∧ P H b z) (fun j y H H' t ⟨b, z, e1, e2, e3⟩ => ⟨b, z, e1, e2, sP _ _ _ _ t e3⟩) hn hG hY (fun i x H H' hi s1 y Q4 k => ?_) fun H acc s1 ea el er => ?_
  · have hi2 : i < zs.length := by omega
    refine hs i x H H' zs[i] hi (List.getElem?_eq_getElem hi2) s1 y Q4 fun b H4 s4 q => k _ _ s4 ⟨b, _, rfl, List.getElem?_eq_getElem hi2, q⟩
  · obtain ⟨as, e1, e2⟩ := refs_of (P := P H) (zs := zs) (by rw [el, hz]) er
    subst e1
    exact hd H s1 ⟨as, ea, e2⟩
/-- .. whose items are plain values -/
theorem lc_vals {J : It} {n : Nat} {G : Hp → Prop} {Y : Nat → Hp → V → Hp → Prop} (w : Walk J n G Y) (zs : List V) (hz : zs.length = n) {g : TG} {te : TE} {vs : List Nat} {σ : L2.St} {H1 : Hp} {D : Addr} {Qd : Hp → Prop} (hD : H1 D = none)
    (hn : n < sizeLine) (hG : ∀ H, Same H1 H → G H) (hY : ∀ i H x H', Y i H x H' → Same H H')
    (hs : ∀ i x H H' z, i < n → zs[i]? = some z → Same H1 H → Y i H x H' → ∀ Q4 : V → Hp → Prop, (∀ H4, Same H' H4 → Q4 z H4) → g x (wipe σ vs) H' fun σ2 H2 => wipe σ2 vs = wipe σ vs ∧ te σ2 H2 Q4)
    (hd : ∀ H, Same H1 H → H D = some (.lst zs) → Qd H) :
    ∃ W : Nat → Nat → Hp → Prop, (∃ m, W 0 m (upd H1 D (.lst []))) ∧ ∀ i m H, W i m H → (J.stop i H ∧ Qd H) ∨ (J.go i H ∧ ∃ Nx : Hp → Prop, (∀ H', Nx H' → ∃ m', m' < m ∧ W (i + 1) m' H') ∧ ∀ x H', J.yld i H x H' →
      g x (wipe σ vs) H' fun σ2 H2 => wipe σ2 vs = wipe σ vs ∧ tYes σ2 H2 fun b H3 => if b = true then te σ2 H3 fun y H4 => ∃ acc, H4 D = some (.lst acc) ∧ acc.length < sizeLine ∧ Nx (upd H4 D (.lst (acc ++ [y]))) else Nx H3) := by
  refine lc_build w hD (fun j y _ => zs[j]? = some y) (fun _ _ _ _ _ h => h) hn hG hY (fun i x H H' hi s1 y Q4 k => ?_) fun H acc s1 ea el er => ?_
  · have hi2 : i < zs.length := by omega
    exact hs i x H H' zs[i] hi (List.getElem?_eq_getElem hi2) s1 y Q4 fun H4 s4 => k _ _ s4 (List.getElem?_eq_getElem hi2)
  · have e : acc = zs := by
      apply List.ext_getElem?
      intro j
      cases hj : acc[j]? with
      | some y => exact (er j y hj).symm
      | none =>
        have : acc.length ≤ j := List.getElem?_eq_none_iff.mp hj
        exact (List.getElem?_eq_none_iff.mpr (by omega)).symm
    subst e
    exact hd H s1 ea
theorem same_at {xs : List V} : ∀ i H x H', YAt xs i H x H' → Same H H' := fun i H x H' y => by
  rw [y.1]
  exact Same.refl _
theorem same_pair {f g : Nat → Option V} : ∀ i H x H', YPair f g i H x H' → Same H H' := fun i H x H' y => by
  obtain ⟨T, a, b, _, hn, rfl, _⟩ := y
  exact Same.new hn
/-! ### what a def hands back -/
/-- a new fraction -/
def NewFr (K : PySem.W.Frag) (H : Hp) (q : Rat) (Q : VK) : Prop := ∀ H' p, Same H H' → FrAt K H' p q → Q (.ref p) H'
def NewCell (K : PySem.W.Frag) (H : Hp) (c : Cell) (Q : VK) : Prop := ∀ H' p, Same H H' → CellAt K H' p c → Q (.ref p) H'
def NewRow (K : PySem.W.Frag) (H : Hp) (l : List Cell) (Q : VK) : Prop := ∀ H' p, Same H H' → H p = none → RowAt K H' p l → Q (.ref p) H'
def NewFrs (K : PySem.W.Frag) (H : Hp) (l : List Rat) (Q : VK) : Prop := ∀ H' p, Same H H' → H p = none → FrsAt K H' p l → Q (.ref p) H'
def NewInts (H : Hp) (l : List Int) (Q : VK) : Prop := ∀ H' p, Same H H' → H p = none → H' p = some (.lst (l.map V.int)) → Q (.ref p) H'
/-- refused with the code c: the error's own dict is new and holds it -/
def Ref (CR : Addr) (E : XK) (H : Hp) (c : Int) : Prop := ∀ (d : Addr) (H' : Hp), Same H H' → H' d = some (.xd [(("code" : Str), .int c)]) → E (.ref CR) (some d) H'
theorem Ref.from {CR : Addr} {E : XK} {H H' : Hp} {c : Int} (h : Ref CR E H c) (s : Same H H') : Ref CR E H' c := fun d H2 s2 e => h d H2 (Same.trans s s2) e
theorem NewFr.from {K : PySem.W.Frag} {H H' : Hp} {q : Rat} {Q : VK} (h : NewFr K H q Q) (s : Same H H') : NewFr K H' q Q := fun H2 p s2 e => h H2 p (Same.trans s s2) e
theorem NewCell.from {K : PySem.W.Frag} {H H' : Hp} {q : Cell} {Q : VK} (h : NewCell K H q Q) (s : Same H H') : NewCell K H' q Q := fun H2 p s2 e => h H2 p (Same.trans s s2) e
theorem NewRow.from {K : PySem.W.Frag} {H H' : Hp} {q : List Cell} {Q : VK} (h : NewRow K H q Q) (s : Same H H') : NewRow K H' q Q := fun H2 p s2 f e => h H2 p (Same.trans s s2) (s.free f) e
theorem NewFrs.from {K : PySem.W.Frag} {H H' : Hp} {q : List Rat} {Q : VK} (h : NewFrs K H q Q) (s : Same H H') : NewFrs K H' q Q := fun H2 p s2 f e => h H2 p (Same.trans s s2) (s.free f) e
theorem NewInts.from {H H' : Hp} {q : List Int} {Q : VK} (h : NewInts H q Q) (s : Same H H') : NewInts H' q Q := fun H2 p s2 f e => h H2 p (Same.trans s s2) (s.free f) e
/-! ### the promises -/
def spGcd : Sp := fun vs H Q _ => ∃ a b : Nat, vs = [.int a, .int b] ∧ Q (.int (Nat.gcd a b : Nat)) H
def spRatio (K : PySem.W.Frag) : Sp := fun vs H Q _ => ∃ (n : Int) (d : Nat), vs = [.int n, .int d] ∧ 0 < d ∧ d < 2 ^ 9000 ∧ NewFr K H (mkRat n d) Q
def spWhole (K : PySem.W.Frag) : Sp := fun vs H Q _ => ∃ n : Int, vs = [.int n] ∧ NewFr K H (n : Rat) Q
def spPlus (K : PySem.W.Frag) : Sp := fun vs H Q _ => ∃ a b q r, vs = [.ref a, .ref b] ∧ FrAt K H a q ∧ FrAt K H b r ∧ Sm q ∧ Sm r ∧ NewFr K H (q + r) Q
def spTimes (K : PySem.W.Frag) : Sp := fun vs H Q _ => ∃ a q, ∃ k : Int, vs = [.ref a, .int k] ∧ FrAt K H a q ∧ Sm q ∧ k.natAbs < 2 ^ 64 ∧ NewFr K H (q * (k : Rat)) Q
def spDivided (K : PySem.W.Frag) : Sp := fun vs H Q _ => ∃ a q, ∃ n : Nat, vs = [.ref a, .int n] ∧ FrAt K H a q ∧ Sm q ∧ 0 < n ∧ n < 2 ^ 64 ∧ NewFr K H (q / (n : Rat)) Q
def spBelow (K : PySem.W.Frag) : Sp := fun vs H Q _ => ∃ a b q r, vs = [.ref a, .ref b] ∧ FrAt K H a q ∧ FrAt K H b r ∧ Sm q ∧ Sm r ∧ Q (.bl (decide (q < r))) H
def spSumOf (K : PySem.W.Frag) : Sp := fun vs H Q _ => ∃ a qs, vs = [.ref a] ∧ FrsAt K H a qs ∧ SumSm qs ∧ NewFr K H (sumR qs) Q
def spGreatest (K : PySem.W.Frag) : Sp := fun vs H Q _ => ∃ a qs, vs = [.ref a] ∧ FrsAt K H a qs ∧ qs ≠ [] ∧ (∀ q ∈ qs, Sm q) ∧ ∀ p, FrAt K H p (Kqk1.greatest qs) → Q (.ref p) H
def spLeast (K : PySem.W.Frag) : Sp := fun vs H Q _ => ∃ a qs, vs = [.ref a] ∧ FrsAt K H a qs ∧ qs ≠ [] ∧ (∀ q ∈ qs, Sm q) ∧ ∀ p, FrAt K H p (Kqk1.smallest qs) → Q (.ref p) H
def spEquil (K : PySem.W.Frag) : Sp := fun vs H Q _ => ∃ a c, vs = [.ref a] ∧ CellAt K H a c ∧ CellSm c ∧ NewCell K H (Kqk1.equilibrated c) Q
def spAllEq (K : PySem.W.Frag) : Sp := fun vs H Q _ => ∃ a l, vs = [.ref a] ∧ RowAt K H a l ∧ l.length ≤ 8 ∧ RowSm l ∧ NewRow K H (l.map Kqk1.equilibrated) Q
def spMoved (K : PySem.W.Frag) : Sp := fun vs H Q _ => ∃ a e l inj, vs = [.ref a, .ref e] ∧ RowAt K H a l ∧ 1 ≤ l.length ∧ l.length ≤ 8 ∧ FrAt K H e inj ∧ NewRow K H (moved inj l) Q
def spAfterStep (K : PySem.W.Frag) : Sp := fun vs H Q _ => ∃ a e l inj, vs = [.ref a, .ref e] ∧ RowAt K H a l ∧ 1 ≤ l.length ∧ l.length ≤ 8 ∧ FrAt K H e inj ∧ RowSm (moved inj l) ∧ NewRow K H (Kqk1.advanced inj l) Q
def spLastWater (K : PySem.W.Frag) : Sp := fun vs H Q _ => ∃ a l, vs = [.ref a] ∧ RowAt K H a l ∧ 1 ≤ l.length ∧ ∀ p, FrAt K H p (Kqk1.outlet l) → Q (.ref p) H
def spAfterSteps (K : PySem.W.Frag) : Sp := fun vs H Q _ => ∃ a e l inj, ∃ k : Nat, vs = [.ref a, .ref e, .int k] ∧ RowAt K H a l ∧ l.length ≤ 8 ∧ FrAt K H e inj ∧ StepsSm inj k l ∧ k ≤ 20 ∧
  ∀ H' t p r, Same H H' → H' t = some (.tup [.ref p, .ref r]) → RowAt K H' p (advN inj k l) → FrsAt K H' r (outs inj k l) → Q (.ref t) H'
def spTemps (K : PySem.W.Frag) : Sp := fun vs H Q _ => ∃ a l, vs = [.ref a] ∧ RowAt K H a l ∧ l.length ≤ 8 ∧ NewFrs K H (temps l) Q
def spWithTemp (K : PySem.W.Frag) : Sp := fun vs H Q _ => ∃ a e c q, vs = [.ref a, .ref e] ∧ CellAt K H a c ∧ FrAt K H e q ∧ NewCell K H ⟨c.rockCapacity, q, q⟩ Q
def spWithCell (K : PySem.W.Frag) : Sp := fun vs H Q _ => ∃ a b l c, ∃ i : Nat, vs = [.ref a, .int i, .ref b] ∧ RowAt K H a l ∧ l.length ≤ 8 ∧ i < l.length ∧ CellAt K H b c ∧ NewRow K H (l.set i c) Q
/-- what the machine is asked of a total heat -/
def heat1 (c : Cell) : Rat := c.rock * ((c.rockCapacity : Int) : Rat) + c.water
def spHeat (K : PySem.W.Frag) : Sp := fun vs H Q _ => ∃ a l, vs = [.ref a] ∧ RowAt K H a l ∧ l.length ≤ 8 ∧ RowSm l ∧ SumSm (l.map heat1) ∧ NewFr K H (sumR (l.map heat1)) Q
def spCaps (K : PySem.W.Frag) : Sp := fun vs H Q _ => ∃ a l, vs = [.ref a] ∧ RowAt K H a l ∧ l.length ≤ 8 ∧ NewInts H (caps l) Q
def spNowhere (K : PySem.W.Frag) : Sp := fun vs H Q _ => ∃ a b l m, vs = [.ref a, .ref b] ∧ RowAt K H a l ∧ RowAt K H b m ∧ l.length ≤ 8 ∧ m.length ≤ 8 ∧ (∀ q ∈ temps l, Sm q) ∧ (∀ q ∈ temps m, Sm q) ∧ ∀ H', Same H H' → Q (.bl (nowhere l m)) H'
/-- what the machine is asked of a mean -/
def MeanSm (l m : List Cell) : Prop := ∀ (i : Nat) (c d : Cell), l[i]? = some c → m[i]? = some d → Sm c.rock ∧ Sm d.rock ∧ Sm c.water ∧ Sm d.water ∧ Sm (c.rock + d.rock) ∧ Sm (c.water + d.water)
def spMean (K : PySem.W.Frag) : Sp := fun vs H Q _ => ∃ a b l m, vs = [.ref a, .ref b] ∧ RowAt K H a l ∧ RowAt K H b m ∧ l.length = m.length ∧ l.length ≤ 8 ∧ MeanSm l m ∧ NewRow K H (Kqk1.mean l m) Q
/-- Refusal's __init__ -/
def spRefInit (CR : Addr) : Sp := fun vs H Q _ => ∃ (a : Addr) (c : Int), vs = [.ref a, .int c] ∧ H a = some (exo a CR none) ∧ ∀ d, H d = none → d ≠ a → Q .non (upd (upd H d (exd d [(("code" : Str), .int c)])) a (exo a CR (some d)))
def spRefuse (CR : Addr) : Sp := fun vs H Q E => ∃ (b : Bool) (c : Int), vs = [.bl b, .int c] ∧ (b = true → Ref CR E H c) ∧ (b = false → Q .non H)
def spCheckT (CR : Addr) : Sp := fun vs H Q E => ∃ t : Nat, vs = [.int t] ∧ (300 < t → Ref CR E H (-22)) ∧ (¬ 300 < t → Q .non H)
def spCheckD (K : PySem.W.Frag) (CR : Addr) : Sp := fun vs H Q E => ∃ a qs, vs = [.ref a] ∧ FrsAt K H a qs ∧ (¬ small qs = true → Ref CR E H (-75)) ∧ (small qs = true → Q .non H)
/-! ### what is called by a name -/
/-- a def of the text's top -/
structure Df (K : PySem.W.Frag) (mg : Str → Option Value) (x : Str) (st : Stmt) (f : Addr) (fd : FuncData) (ps : List Str) : Prop where
  F : Fun K x x st f fd
  g : mg x = some (.ref f)
  b : Binds K fd ps []
/-- a method of the class at C -/
structure Mt (K : PySem.W.Frag) (C : Addr) (q m : Str) (st : Stmt) (f : Addr) (fd : FuncData) (ps : List Str) : Prop where
  F : Fun K m q st f fd
  M : Meth K C m f
  b : Binds K fd ps []
/-- a class of the text's top with its __init__ -/
structure Cz (K : PySem.W.Frag) (mg : Str → Option Value) (x q : Str) (C : Addr) (st : Stmt) (f : Addr) (fd : FuncData) (ps : List Str) : Prop where
  F : Fun K "__init__" q st f fd
  M : Mk K C f
  b : Binds K fd ps []
  g : mg x = some (.ref C)
/-- an error's class with its __init__ -/
structure Ez (K : PySem.W.Frag) (mg : Str → Option Value) (x q : Str) (C : Addr) (st : Stmt) (f : Addr) (fd : FuncData) (ps : List Str) : Prop where
  F : Fun K "__init__" q st f fd
  i : PySem.W.findIn K (.ref C) "__init__" = some (some (.ref f))
  t : PySem.W.typeIn K (.ref f) = some (.type "function")
  b : Binds K fd ps []
  g : mg x = some (.ref C)
def GInt (mg : Str → Option Value) (x : Str) (i : Int) : Prop := ∃ t, mg x = some (Value.int i t)
def Cal (P : Program) (w : World) (K : PySem.W.Frag) (mg : Str → Option Value) (base : Heap) (CX : CXT) (k : Nat) (x : Str) (ps : List Str) (sp : Sp) : Prop := ∃ st f fd, Df K mg x st f fd ps ∧ FnOk P w K mg base CX k f fd ps sp
def CalM (P : Program) (w : World) (K : PySem.W.Frag) (mg : Str → Option Value) (base : Heap) (CX : CXT) (k : Nat) (C : Addr) (m : Str) (ps : List Str) (sp : Sp) : Prop := ∃ q st f fd, Mt K C q m st f fd ps ∧ FnOk P w K mg base CX k f fd ps sp
def CalC (P : Program) (w : World) (K : PySem.W.Frag) (mg : Str → Option Value) (base : Heap) (CX : CXT) (k : Nat) (x : Str) (C : Addr) (ps : List Str) (sp : Sp) : Prop := ∃ q st f fd, Cz K mg x q C st f fd ps ∧ FnOk P w K mg base CX k f fd ps sp
def CalE (P : Program) (w : World) (K : PySem.W.Frag) (mg : Str → Option Value) (base : Heap) (k : Nat) (x : Str) (C : Addr) (ps : List Str) (sp : Sp) : Prop := ∃ q st f fd, Ez K mg x q C st f fd ps ∧ FnOk P w K mg base CX0 k f fd ps sp
section
variable {P : Program} {w : World} {K : PySem.W.Frag} {mg : Str → Option Value} {base : Heap} {CX : CXT} {k : Nat} {C : Addr} {x q m : Str} {st : Stmt} {ps : List Str} {sp : Sp}
theorem cal_mk (h : ∃ f fd, Df K mg x st f fd ps) (r : ∀ f fd, Fun K x x st f fd → FnOk P w K mg base CX k f fd ps sp) : Cal P w K mg base CX k x ps sp := by
  obtain ⟨f, fd, d⟩ := h
  exact ⟨st, f, fd, d, r f fd d.F⟩
theorem calM_mk (h : ∃ f fd, Mt K C q m st f fd ps) (r : ∀ f fd, Fun K m q st f fd → FnOk P w K mg base CX k f fd ps sp) : CalM P w K mg base CX k C m ps sp := by
  obtain ⟨f, fd, d⟩ := h
  exact ⟨q, st, f, fd, d, r f fd d.F⟩
theorem calC_mk (h : ∃ f fd, Cz K mg x q C st f fd ps) (r : ∀ f fd, Fun K "__init__" q st f fd → FnOk P w K mg base CX k f fd ps sp) : CalC P w K mg base CX k x C ps sp := by
  obtain ⟨f, fd, d⟩ := h
  exact ⟨q, st, f, fd, d, r f fd d.F⟩
theorem calE_mk (h : ∃ f fd, Ez K mg x q C st f fd ps) (r : ∀ f fd, Fun K "__init__" q st f fd → FnOk P w K mg base CX0 k f fd ps sp) : CalE P w K mg base k x C ps sp := by
  obtain ⟨f, fd, d⟩ := h
  exact ⟨q, st, f, fd, d, r f fd d.F⟩
end
section
variable {X : Cx} {CX : CXT} {k j : Nat} {C : Addr} {ps : List Str} {sp : Sp} {x m : Str} {p pos apos : Pos} {e o : Expr} {es : List Expr} {ta : TE} {t : TA} {i : Int}
theorem pe_gi (hg : Gl X x) (h : GInt X.mg x i) (hd : (x == ("__debug__" : Str)) = false := by decide) : PE X (.Name x p) (tC (.int i)) := by
  obtain ⟨tk, e⟩ := h
  exact pe_glob hg e ⟨tk, rfl⟩ hd
/-- the call of a def that raises nothing -/
theorem pe_fn (G : Cal X.prog X.w X.K X.mg X.base CX0 j x ps sp) (hr : Room k X.A) (hjk : j ≤ k) (hg : Gl X x) (ha : PA X (e :: es) t) (hdb : (x == ("__debug__" : Str)) = false := by decide)
    (he : starEach (e :: es) X.env = (false, eval e X.env) :: starEach es X.env := by rfl) (hpl : (backTo pos (starEach es X.env)).any (·.1) = false := by rfl) :
    PE X (.Call (.Name x p) (e :: es) [] pos) (tCall sp [] E0 t) := by
  obtain ⟨st, f, fd, D, F⟩ := G
  exact pe_call F (hr.mono hjk) hg D.g D.F.kp D.b .nil pass0 ha hdb he hpl
/-- what a callee raises the def lets out -/
theorem passE {E : XK} (hs : X.stack = X.env :: X.outer) (hf : X.env.frame = some X.env.locals) (hex : X.ex = []) {E1 : Value → Shared → Prop}
    (hx : X.xe = fun e s' => wpAny (model X.prog X.w) X.A (leaving X.env e) (fun _ s'' => L2.CX X.prog X.w X.outer X.H_0 X.s_0 E e s'') E1 s') : Passes (L2.CX X.prog X.w) X E := passes_call (takes_of hs hf hex hx) fun _ _ _ _ h => h
/-- the call of a def that may raise, in a def that may -/
theorem pe_fx {E : XK} (G : Cal X.prog X.w X.K X.mg X.base (L2.CX X.prog X.w) j x ps sp) (hr : Room k X.A) (hjk : j ≤ k) (hg : Gl X x) (hx : Passes (L2.CX X.prog X.w) X E) (ha : PA X (e :: es) t) (hdb : (x == ("__debug__" : Str)) = false := by decide)
    (he : starEach (e :: es) X.env = (false, eval e X.env) :: starEach es X.env := by rfl) (hpl : (backTo pos (starEach es X.env)).any (·.1) = false := by rfl) :
    PE X (.Call (.Name x p) (e :: es) [] pos) (tCall sp [] E t) := by
  obtain ⟨st, f, fd, D, F⟩ := G
  exact pe_call F (hr.mono hjk) hg D.g D.F.kp D.b .nil hx ha hdb he hpl
/-- o.m(e, ..) -/
theorem pe_mt {E : XK} {pl : Sem Bool} (c : Cls X.K C) (G : CalM X.prog X.w X.K X.mg X.base CX j C m ps sp) (hr : Room k X.A) (hjk : j ≤ k) (hx : Passes CX X E) (ho : PE X o ta) (ha : PA X (e :: es) t)
    (hst : starEach (e :: es) X.env = (false, eval e X.env) :: starEach es X.env := by rfl) (hpl : (backTo pos (starEach es X.env)).any (·.1) = false := by rfl)
    (ht : eval (.Call (.Attribute o m apos) (e :: es) [] pos) X.env = (do
      let ov ← eval o X.env
      standAt apos.atName
      let (f, first) ← holding [ov] (getMethod ov m pl)
      callWith pos f first (backTo pos (starEach (e :: es) X.env)) (backToKw pos (keywordEach [] X.env))) := by rfl) :
    PE X (.Call (.Attribute o m apos) (e :: es) [] pos) (tMeth C m sp [] E ta t) := by
  obtain ⟨q, st, f, fd, D, F⟩ := G
  exact pe_meth ho c D.M F (hr.mono hjk) D.b .nil hx ha hst hpl ht
/-- o.m() -/
theorem pe_mt0 {E : XK} {pl : Sem Bool} (c : Cls X.K C) (G : CalM X.prog X.w X.K X.mg X.base CX j C m ps sp) (hr : Room k X.A) (hjk : j ≤ k) (hx : Passes CX X E) (ho : PE X o ta)
    (ht : eval (.Call (.Attribute o m apos) [] [] pos) X.env = (do
      let ov ← eval o X.env
      standAt apos.atName
      let (f, first) ← holding [ov] (getMethod ov m pl)
      callWith pos f first (backTo pos (starEach [] X.env)) (backToKw pos (keywordEach [] X.env))) := by rfl) :
    PE X (.Call (.Attribute o m apos) [] [] pos) (tMeth C m sp [] E ta tNil) := by
  obtain ⟨q, st, f, fd, D, F⟩ := G
  exact pe_meth0 ho c D.M F (hr.mono hjk) D.b .nil hx ht
/-- C(e, ..), C() -/
theorem pe_mkc {E : XK} (G : CalC X.prog X.w X.K X.mg X.base CX j x C ps sp) (hr : Room k X.A) (hjk : j + 1 ≤ k) (hg : Gl X x) (hx : Passes CX X E) (ha : PA X (e :: es) t) (hdb : (x == ("__debug__" : Str)) = false := by decide)
    (he : starEach (e :: es) X.env = (false, eval e X.env) :: starEach es X.env := by rfl) (hpl : (backTo pos (starEach es X.env)).any (·.1) = false := by rfl) :
    PE X (.Call (.Name x p) (e :: es) [] pos) (tMake C sp [] E t) := by
  obtain ⟨q, st, f, fd, D, F⟩ := G
  exact pe_make D.M F (hr.mono hjk) hg D.g D.b .nil hx ha hdb he hpl
theorem pe_mkc0 {E : XK} (G : CalC X.prog X.w X.K X.mg X.base CX j x C ps sp) (hr : Room k X.A) (hjk : j + 1 ≤ k) (hg : Gl X x) (hx : Passes CX X E) (hdb : (x == ("__debug__" : Str)) = false := by decide) :
    PE X (.Call (.Name x p) [] [] pos) (tMake C sp [] E tNil) := by
  obtain ⟨q, st, f, fd, D, F⟩ := G
  exact pe_make0 D.M F (hr.mono hjk) hg D.g D.b .nil hx hdb
/-- Refusal(e) -/
theorem pmk_e (T : RefC X.K C) (G : CalE X.prog X.w X.K X.mg X.base j x C ps sp) (hr : Room k X.A) (hjk : j + 1 ≤ k) (hg : Gl X x) (ha : PA X (e :: es) t)
    (hdb : (x == ("__debug__" : Str)) = false := by decide) (he : starEach (e :: es) X.env = (false, eval e X.env) :: starEach es X.env := by rfl) (hpl : (backTo pos (starEach es X.env)).any (·.1) = false := by rfl) :
    PMk X (.Call (.Name x p) (e :: es) [] pos) (tMkO C sp [] t) := by
  obtain ⟨q, st, f, fd, D, F⟩ := G
  exact pmk_ref T D.i D.t F (hr.mono hjk) D.b pass0 hg D.g ha hdb he hpl
end
/-! ### the machine's limits -/
theorem mul_ok {i j : Int} {m n : Nat} (hi : i.natAbs < 2 ^ m) (hj : j.natAbs < 2 ^ n) (h0 : 0 < m) (h1 : 0 < n) (h : m + n ≤ 1000000) : CMulW i j := wide_mul hi hj h0 h1 h
theorem sm_mul {q r : Rat} (hq : Sm q) (hr : Sm r) : CMulW q.num (r.den : Int) := mul_ok hq.num (by simpa using hr.den) (by decide) (by decide) (by decide)
theorem sm_den {q r : Rat} (hq : Sm q) (hr : Sm r) : CMulW (q.den : Int) (r.den : Int) := mul_ok (m := 4000) (n := 4000) (by simpa using hq.den) (by simpa using hr.den) (by decide) (by decide) (by decide)
end L2.CfX

end
section
/-! The text's defs by their places, their names by slots, and what the top has written (printed by terms.py). -/
namespace L2.CfX
open PySem PySem.Spec PyProof.Rows L2
def top (i : Nat) : Stmt := PySem.Challenge.pw_coldfrontrow_s01_answers.main.body.getD i (.Pass ⟨0, 0, 0, 0⟩)
abbrev s_split_calls : Stmt := top 2
theorem sc_split_calls : FnScope ["numbers", "found", "place", "call", "end"] ["numbers"] (defScope s_split_calls) := ⟨rfl, rfl, rfl, by decide +kernel, rfl, by decide +kernel, by decide +kernel⟩
abbrev s_Refusal_init : Stmt := inClass (top 11) 0
theorem sc_Refusal_init : FnScope ["self", "code"] ["self", "code"] (defScope s_Refusal_init) := ⟨rfl, rfl, rfl, by decide +kernel, rfl, by decide +kernel, by decide +kernel⟩
abbrev s_refuse_if : Stmt := top 12
theorem sc_refuse_if : FnScope ["is_wrong", "code"] ["is_wrong", "code"] (defScope s_refuse_if) := ⟨rfl, rfl, rfl, by decide +kernel, rfl, by decide +kernel, by decide +kernel⟩
abbrev s_common_divisor : Stmt := top 15
theorem sc_common_divisor : FnScope ["one", "other"] ["one", "other"] (defScope s_common_divisor) := ⟨rfl, rfl, rfl, by decide +kernel, rfl, by decide +kernel, by decide +kernel⟩
abbrev s_ratio : Stmt := top 16
theorem sc_ratio : FnScope ["numerator", "denominator", "divisor"] ["numerator", "denominator"] (defScope s_ratio) := ⟨rfl, rfl, rfl, by decide +kernel, rfl, by decide +kernel, by decide +kernel⟩
abbrev s_whole : Stmt := top 17
theorem sc_whole : FnScope ["number"] ["number"] (defScope s_whole) := ⟨rfl, rfl, rfl, by decide +kernel, rfl, by decide +kernel, by decide +kernel⟩
abbrev s_plus : Stmt := top 18
theorem sc_plus : FnScope ["one", "other"] ["one", "other"] (defScope s_plus) := ⟨rfl, rfl, rfl, by decide +kernel, rfl, by decide +kernel, by decide +kernel⟩
abbrev s_times : Stmt := top 19
theorem sc_times : FnScope ["fraction", "factor"] ["fraction", "factor"] (defScope s_times) := ⟨rfl, rfl, rfl, by decide +kernel, rfl, by decide +kernel, by decide +kernel⟩
abbrev s_divided : Stmt := top 20
theorem sc_divided : FnScope ["fraction", "divisor"] ["fraction", "divisor"] (defScope s_divided) := ⟨rfl, rfl, rfl, by decide +kernel, rfl, by decide +kernel, by decide +kernel⟩
abbrev s_is_below : Stmt := top 21
theorem sc_is_below : FnScope ["one", "other"] ["one", "other"] (defScope s_is_below) := ⟨rfl, rfl, rfl, by decide +kernel, rfl, by decide +kernel, by decide +kernel⟩
abbrev s_sum_of : Stmt := top 22
theorem sc_sum_of : FnScope ["fractions", "found", "fraction"] ["fractions"] (defScope s_sum_of) := ⟨rfl, rfl, rfl, by decide +kernel, rfl, by decide +kernel, by decide +kernel⟩
abbrev s_greatest_of : Stmt := top 23
theorem sc_greatest_of : FnScope ["fractions", "found", "fraction"] ["fractions"] (defScope s_greatest_of) := ⟨rfl, rfl, rfl, by decide +kernel, rfl, by decide +kernel, by decide +kernel⟩
abbrev s_least_of : Stmt := top 24
theorem sc_least_of : FnScope ["fractions", "found", "fraction"] ["fractions"] (defScope s_least_of) := ⟨rfl, rfl, rfl, by decide +kernel, rfl, by decide +kernel, by decide +kernel⟩
abbrev s_equilibrated : Stmt := top 26
theorem sc_equilibrated : FnScope ["cell", "capacity", "rock", "water", "common"] ["cell"] (defScope s_equilibrated) := ⟨rfl, rfl, rfl, by decide +kernel, rfl, by decide +kernel, by decide +kernel⟩
abbrev s_all_equilibrated : Stmt := top 27
theorem sc_all_equilibrated : FnScope ["row", "cell"] ["row"] (defScope s_all_equilibrated) := ⟨rfl, rfl, rfl, by decide +kernel, rfl, by decide +kernel, by decide +kernel⟩
abbrev s_moved : Stmt := top 28
theorem sc_moved : FnScope ["row", "entering", "waters", "cell", "water"] ["row", "entering"] (defScope s_moved) := ⟨rfl, rfl, rfl, by decide +kernel, rfl, by decide +kernel, by decide +kernel⟩
abbrev s_after_step : Stmt := top 29
theorem sc_after_step : FnScope ["row", "entering"] ["row", "entering"] (defScope s_after_step) := ⟨rfl, rfl, rfl, by decide +kernel, rfl, by decide +kernel, by decide +kernel⟩
abbrev s_last_water : Stmt := top 30
theorem sc_last_water : FnScope ["row"] ["row"] (defScope s_last_water) := ⟨rfl, rfl, rfl, by decide +kernel, rfl, by decide +kernel, by decide +kernel⟩
abbrev s_after_steps : Stmt := top 31
theorem sc_after_steps : FnScope ["row", "entering", "steps", "produced", "step"] ["row", "entering", "steps"] (defScope s_after_steps) := ⟨rfl, rfl, rfl, by decide +kernel, rfl, by decide +kernel, by decide +kernel⟩
abbrev s_temperatures_of : Stmt := top 32
theorem sc_temperatures_of : FnScope ["row", "cell"] ["row"] (defScope s_temperatures_of) := ⟨rfl, rfl, rfl, by decide +kernel, rfl, by decide +kernel, by decide +kernel⟩
abbrev s_with_temperature : Stmt := top 33
theorem sc_with_temperature : FnScope ["cell", "temperature"] ["cell", "temperature"] (defScope s_with_temperature) := ⟨rfl, rfl, rfl, by decide +kernel, rfl, by decide +kernel, by decide +kernel⟩
abbrev s_with_cell : Stmt := top 34
theorem sc_with_cell : FnScope ["row", "index", "cell"] ["row", "index", "cell"] (defScope s_with_cell) := ⟨rfl, rfl, rfl, by decide +kernel, rfl, by decide +kernel, by decide +kernel⟩
abbrev s_heat_of : Stmt := top 35
theorem sc_heat_of : FnScope ["row", "cell"] ["row"] (defScope s_heat_of) := ⟨rfl, rfl, rfl, by decide +kernel, rfl, by decide +kernel, by decide +kernel⟩
abbrev s_capacities_of : Stmt := top 36
theorem sc_capacities_of : FnScope ["row", "cell"] ["row"] (defScope s_capacities_of) := ⟨rfl, rfl, rfl, by decide +kernel, rfl, by decide +kernel, by decide +kernel⟩
abbrev s_is_nowhere_colder : Stmt := top 37
theorem sc_is_nowhere_colder : FnScope ["row", "other", "here", "there", "one", "two"] ["row", "other"] (defScope s_is_nowhere_colder) := ⟨rfl, rfl, rfl, by decide +kernel, rfl, by decide +kernel, by decide +kernel⟩
abbrev s_mean_row : Stmt := top 38
theorem sc_mean_row : FnScope ["row", "other", "found", "here", "there", "rock", "water"] ["row", "other"] (defScope s_mean_row) := ⟨rfl, rfl, rfl, by decide +kernel, rfl, by decide +kernel, by decide +kernel⟩
abbrev s_check_temperature : Stmt := top 45
theorem sc_check_temperature : FnScope ["temperature"] ["temperature"] (defScope s_check_temperature) := ⟨rfl, rfl, rfl, by decide +kernel, rfl, by decide +kernel, by decide +kernel⟩
abbrev s_check_denominators : Stmt := top 46
theorem sc_check_denominators : FnScope ["fractions", "fraction"] ["fractions"] (defScope s_check_denominators) := ⟨rfl, rfl, rfl, by decide +kernel, rfl, by decide +kernel, by decide +kernel⟩
abbrev s_Reservoir_init : Stmt := inClass (top 47) 0
theorem sc_Reservoir_init : FnScope ["self", "cell_count"] ["self", "cell_count"] (defScope s_Reservoir_init) := ⟨rfl, rfl, rfl, by decide +kernel, rfl, by decide +kernel, by decide +kernel⟩
abbrev s_check_cell : Stmt := inClass (top 47) 1
theorem sc_check_cell : FnScope ["self", "cell"] ["self", "cell"] (defScope s_check_cell) := ⟨rfl, rfl, rfl, by decide +kernel, rfl, by decide +kernel, by decide +kernel⟩
abbrev s_check_saved : Stmt := inClass (top 47) 2
theorem sc_check_saved : FnScope ["self"] ["self"] (defScope s_check_saved) := ⟨rfl, rfl, rfl, by decide +kernel, rfl, by decide +kernel, by decide +kernel⟩
abbrev s_set_rock_capacity : Stmt := inClass (top 47) 3
theorem sc_set_rock_capacity : FnScope ["self", "cell", "rock_capacity", "previous", "rock", "water"] ["self", "cell", "rock_capacity"] (defScope s_set_rock_capacity) := ⟨rfl, rfl, rfl, by decide +kernel, rfl, by decide +kernel, by decide +kernel⟩
abbrev s_set_temperature : Stmt := inClass (top 47) 4
theorem sc_set_temperature : FnScope ["self", "cell", "temperature"] ["self", "cell", "temperature"] (defScope s_set_temperature) := ⟨rfl, rfl, rfl, by decide +kernel, rfl, by decide +kernel, by decide +kernel⟩
abbrev s_set_all_temperatures : Stmt := inClass (top 47) 5
theorem sc_set_all_temperatures : FnScope ["self", "temperature", "cell"] ["self", "temperature"] (defScope s_set_all_temperatures) := ⟨rfl, rfl, rfl, by decide +kernel, rfl, by decide +kernel, by decide +kernel⟩
abbrev s_set_injection_temperature : Stmt := inClass (top 47) 6
theorem sc_set_injection_temperature : FnScope ["self", "temperature", "previous"] ["self", "temperature"] (defScope s_set_injection_temperature) := ⟨rfl, rfl, rfl, by decide +kernel, rfl, by decide +kernel, by decide +kernel⟩
abbrev s_run_steps : Stmt := inClass (top 47) 7
theorem sc_run_steps : FnScope ["self", "steps", "row", "produced", "gained", "injected_sum", "produced_sum"] ["self", "steps"] (defScope s_run_steps) := ⟨rfl, rfl, rfl, by decide +kernel, rfl, by decide +kernel, by decide +kernel⟩
abbrev s_advance : Stmt := inClass (top 47) 8
theorem sc_advance : FnScope ["self"] ["self"] (defScope s_advance) := ⟨rfl, rfl, rfl, by decide +kernel, rfl, by decide +kernel, by decide +kernel⟩
abbrev s_advance_many : Stmt := inClass (top 47) 9
theorem sc_advance_many : FnScope ["self", "steps"] ["self", "steps"] (defScope s_advance_many) := ⟨rfl, rfl, rfl, by decide +kernel, rfl, by decide +kernel, by decide +kernel⟩
abbrev s_equilibrate : Stmt := inClass (top 47) 10
theorem sc_equilibrate : FnScope ["self", "row"] ["self"] (defScope s_equilibrate) := ⟨rfl, rfl, rfl, by decide +kernel, rfl, by decide +kernel, by decide +kernel⟩
abbrev s_next_parcels : Stmt := inClass (top 47) 11
theorem sc_next_parcels : FnScope ["self", "count"] ["self", "count"] (defScope s_next_parcels) := ⟨rfl, rfl, rfl, by decide +kernel, rfl, by decide +kernel, by decide +kernel⟩
abbrev s_forecast : Stmt := inClass (top 47) 12
theorem sc_forecast : FnScope ["self", "count", "found", "temperature"] ["self", "count"] (defScope s_forecast) := ⟨rfl, rfl, rfl, by decide +kernel, rfl, by decide +kernel, by decide +kernel⟩
abbrev s_get_cell : Stmt := inClass (top 47) 13
theorem sc_get_cell : FnScope ["self", "cell", "capacity", "rock", "water"] ["self", "cell"] (defScope s_get_cell) := ⟨rfl, rfl, rfl, by decide +kernel, rfl, by decide +kernel, by decide +kernel⟩
abbrev s_total_heat : Stmt := inClass (top 47) 14
theorem sc_total_heat : FnScope ["self"] ["self"] (defScope s_total_heat) := ⟨rfl, rfl, rfl, by decide +kernel, rfl, by decide +kernel, by decide +kernel⟩
abbrev s_balance : Stmt := inClass (top 47) 15
theorem sc_balance : FnScope ["self"] ["self"] (defScope s_balance) := ⟨rfl, rfl, rfl, by decide +kernel, rfl, by decide +kernel, by decide +kernel⟩
abbrev s_hottest : Stmt := inClass (top 47) 16
theorem sc_hottest : FnScope ["self"] ["self"] (defScope s_hottest) := ⟨rfl, rfl, rfl, by decide +kernel, rfl, by decide +kernel, by decide +kernel⟩
abbrev s_coldest : Stmt := inClass (top 47) 17
theorem sc_coldest : FnScope ["self"] ["self"] (defScope s_coldest) := ⟨rfl, rfl, rfl, by decide +kernel, rfl, by decide +kernel, by decide +kernel⟩
abbrev s_breakthrough : Stmt := inClass (top 47) 18
theorem sc_breakthrough : FnScope ["self", "temperature", "place", "parcel"] ["self", "temperature"] (defScope s_breakthrough) := ⟨rfl, rfl, rfl, by decide +kernel, rfl, by decide +kernel, by decide +kernel⟩
abbrev s_save_profile : Stmt := inClass (top 47) 19
theorem sc_save_profile : FnScope ["self"] ["self"] (defScope s_save_profile) := ⟨rfl, rfl, rfl, by decide +kernel, rfl, by decide +kernel, by decide +kernel⟩
abbrev s_compare_with_saved : Stmt := inClass (top 47) 20
theorem sc_compare_with_saved : FnScope ["self"] ["self"] (defScope s_compare_with_saved) := ⟨rfl, rfl, rfl, by decide +kernel, rfl, by decide +kernel, by decide +kernel⟩
abbrev s_average_with_saved : Stmt := inClass (top 47) 21
theorem sc_average_with_saved : FnScope ["self", "row"] ["self"] (defScope s_average_with_saved) := ⟨rfl, rfl, rfl, by decide +kernel, rfl, by decide +kernel, by decide +kernel⟩
abbrev s_reverse : Stmt := inClass (top 47) 22
theorem sc_reverse : FnScope ["self"] ["self"] (defScope s_reverse) := ⟨rfl, rfl, rfl, by decide +kernel, rfl, by decide +kernel, by decide +kernel⟩
abbrev s_excess_heat : Stmt := inClass (top 47) 23
theorem sc_excess_heat : FnScope ["self", "temperature", "weight", "capacity"] ["self", "temperature"] (defScope s_excess_heat) := ⟨rfl, rfl, rfl, by decide +kernel, rfl, by decide +kernel, by decide +kernel⟩
abbrev s_summary : Stmt := inClass (top 47) 24
theorem sc_summary : FnScope ["self"] ["self"] (defScope s_summary) := ⟨rfl, rfl, rfl, by decide +kernel, rfl, by decide +kernel, by decide +kernel⟩
abbrev s_perform_setting : Stmt := top 50
theorem sc_perform_setting : FnScope ["reservoir", "call", "arguments"] ["reservoir", "call", "arguments"] (defScope s_perform_setting) := ⟨rfl, rfl, rfl, by decide +kernel, rfl, by decide +kernel, by decide +kernel⟩
abbrev s_perform_steps : Stmt := top 51
theorem sc_perform_steps : FnScope ["reservoir", "call", "arguments"] ["reservoir", "call", "arguments"] (defScope s_perform_steps) := ⟨rfl, rfl, rfl, by decide +kernel, rfl, by decide +kernel, by decide +kernel⟩
abbrev s_perform_report : Stmt := top 52
theorem sc_perform_report : FnScope ["reservoir", "call", "arguments"] ["reservoir", "call", "arguments"] (defScope s_perform_report) := ⟨rfl, rfl, rfl, by decide +kernel, rfl, by decide +kernel, by decide +kernel⟩
abbrev s_perform_profile : Stmt := top 53
theorem sc_perform_profile : FnScope ["reservoir", "call", "arguments"] ["reservoir", "call", "arguments"] (defScope s_perform_profile) := ⟨rfl, rfl, rfl, by decide +kernel, rfl, by decide +kernel, by decide +kernel⟩
abbrev s_Session_init : Stmt := inClass (top 54) 0
theorem sc_Session_init : FnScope ["self"] ["self"] (defScope s_Session_init) := ⟨rfl, rfl, rfl, by decide +kernel, rfl, by decide +kernel, by decide +kernel⟩
abbrev s_perform : Stmt := inClass (top 54) 1
theorem sc_perform : FnScope ["self", "call", "arguments"] ["self", "call", "arguments"] (defScope s_perform) := ⟨rfl, rfl, rfl, by decide +kernel, rfl, by decide +kernel, by decide +kernel⟩
abbrev s_answer : Stmt := inClass (top 54) 2
theorem sc_answer : FnScope ["self", "call", "arguments", "e", "found"] ["self", "call", "arguments"] (defScope s_answer) := ⟨rfl, rfl, rfl, by decide +kernel, rfl, by decide +kernel, by decide +kernel⟩
abbrev s_answers : Stmt := top 55
theorem sc_answers : FnScope ["calls", "session", "found", "call", "arguments", "numbers"] ["calls"] (defScope s_answers) := ⟨rfl, rfl, rfl, by decide +kernel, rfl, by decide +kernel, by decide +kernel⟩
/-- what the top has written; CR: the error, CV: the reservoir, CS: the session -/
structure Txt (K : PySem.W.Frag) (mg : Str → Option Value) (CR CV CS : Addr) : Prop where
  rc : RefC K CR
  xf : XfC K CR
  noCode : PySem.W.findIn K (.ref CR) "code" = some none
  gR : mg "Refusal" = some (.ref CR)
  eR : PySem.W.exmOne K (.ref CR) (.ref CR) = some true
  clR : Cls K CV
  clS : Cls K CS
  m_Exception : mg "Exception" = none
  v_Exc : PySem.W.findCls K (.type "Exception") (.type "type") "__init__" = some (.val (.builtin "Exception.__init__"))
  m_len : mg "len" = none
  m_abs : mg "abs" = none
  m_sum : mg "sum" = none
  m_any : mg "any" = none
  m_list : mg "list" = none
  m_int : mg "int" = none
  m_range : mg "range" = none
  m_zip : mg "zip" = none
  m_enumerate : mg "enumerate" = none
  a_row : NoAttr K CV "row"
  a_injection : NoAttr K CV "injection"
  a_injected_sum : NoAttr K CV "injected_sum"
  a_produced_sum : NoAttr K CV "produced_sum"
  a_produced_count : NoAttr K CV "produced_count"
  a_has_saved : NoAttr K CV "has_saved"
  a_saved_row : NoAttr K CV "saved_row"
  a_has_reservoir : NoAttr K CS "has_reservoir"
  a_reservoir : NoAttr K CS "reservoir"
  g_ZERO : ∃ a, mg "ZERO" = some (.ref a) ∧ KTup K a [.int 0, .int 1]
  g_NUMBERS : ∃ a, mg "NUMBERS" = some (.ref a) ∧ KTup K a ([1, 2, 2, 1, 1, 0, 1, 0, 1, 1, 0, 0, 0, 0, 1, 0, 0, 0, 0, 1, 0].map V.int)
  g_NO_RESERVOIR : GInt mg "NO_RESERVOIR" (-11)
  g_NO_CELL : GInt mg "NO_CELL" (-2)
  g_NO_PROFILE : GInt mg "NO_PROFILE" (-6)
  g_OUT_OF_RANGE : GInt mg "OUT_OF_RANGE" (-22)
  g_NO_BREAKTHROUGH : GInt mg "NO_BREAKTHROUGH" (-33)
  g_OTHER_CELLS : GInt mg "OTHER_CELLS" (-34)
  g_TOO_LARGE : GInt mg "TOO_LARGE" (-75)
  g_MOST_CELLS : GInt mg "MOST_CELLS" (8)
  g_MOST_CAPACITY : GInt mg "MOST_CAPACITY" (20)
  g_MOST_TEMPERATURE : GInt mg "MOST_TEMPERATURE" (300)
  g_MOST_STEPS : GInt mg "MOST_STEPS" (20)
  g_MOST_DENOMINATOR : GInt mg "MOST_DENOMINATOR" (10 ^ 40)
  g_CREATE : GInt mg "CREATE" (0)
  d_split_calls : ∃ f fd, Df K mg "split_calls" s_split_calls f fd ["numbers"]
  d_Refusal_init : ∃ f fd, Ez K mg "Refusal" "Refusal.__init__" CR s_Refusal_init f fd ["self", "code"]
  d_refuse_if : ∃ f fd, Df K mg "refuse_if" s_refuse_if f fd ["is_wrong", "code"]
  d_common_divisor : ∃ f fd, Df K mg "common_divisor" s_common_divisor f fd ["one", "other"]
  d_ratio : ∃ f fd, Df K mg "ratio" s_ratio f fd ["numerator", "denominator"]
  d_whole : ∃ f fd, Df K mg "whole" s_whole f fd ["number"]
  d_plus : ∃ f fd, Df K mg "plus" s_plus f fd ["one", "other"]
  d_times : ∃ f fd, Df K mg "times" s_times f fd ["fraction", "factor"]
  d_divided : ∃ f fd, Df K mg "divided" s_divided f fd ["fraction", "divisor"]
  d_is_below : ∃ f fd, Df K mg "is_below" s_is_below f fd ["one", "other"]
  d_sum_of : ∃ f fd, Df K mg "sum_of" s_sum_of f fd ["fractions"]
  d_greatest_of : ∃ f fd, Df K mg "greatest_of" s_greatest_of f fd ["fractions"]
  d_least_of : ∃ f fd, Df K mg "least_of" s_least_of f fd ["fractions"]
  d_equilibrated : ∃ f fd, Df K mg "equilibrated" s_equilibrated f fd ["cell"]
  d_all_equilibrated : ∃ f fd, Df K mg "all_equilibrated" s_all_equilibrated f fd ["row"]
  d_moved : ∃ f fd, Df K mg "moved" s_moved f fd ["row", "entering"]
  d_after_step : ∃ f fd, Df K mg "after_step" s_after_step f fd ["row", "entering"]
  d_last_water : ∃ f fd, Df K mg "last_water" s_last_water f fd ["row"]
  d_after_steps : ∃ f fd, Df K mg "after_steps" s_after_steps f fd ["row", "entering", "steps"]
  d_temperatures_of : ∃ f fd, Df K mg "temperatures_of" s_temperatures_of f fd ["row"]
  d_with_temperature : ∃ f fd, Df K mg "with_temperature" s_with_temperature f fd ["cell", "temperature"]
  d_with_cell : ∃ f fd, Df K mg "with_cell" s_with_cell f fd ["row", "index", "cell"]
  d_heat_of : ∃ f fd, Df K mg "heat_of" s_heat_of f fd ["row"]
  d_capacities_of : ∃ f fd, Df K mg "capacities_of" s_capacities_of f fd ["row"]
  d_is_nowhere_colder : ∃ f fd, Df K mg "is_nowhere_colder" s_is_nowhere_colder f fd ["row", "other"]
  d_mean_row : ∃ f fd, Df K mg "mean_row" s_mean_row f fd ["row", "other"]
  d_check_temperature : ∃ f fd, Df K mg "check_temperature" s_check_temperature f fd ["temperature"]
  d_check_denominators : ∃ f fd, Df K mg "check_denominators" s_check_denominators f fd ["fractions"]
  d_Reservoir_init : ∃ f fd, Cz K mg "Reservoir" "Reservoir.__init__" CV s_Reservoir_init f fd ["self", "cell_count"]
  d_check_cell : ∃ f fd, Mt K CV "Reservoir.check_cell" "check_cell" s_check_cell f fd ["self", "cell"]
  d_check_saved : ∃ f fd, Mt K CV "Reservoir.check_saved" "check_saved" s_check_saved f fd ["self"]
  d_set_rock_capacity : ∃ f fd, Mt K CV "Reservoir.set_rock_capacity" "set_rock_capacity" s_set_rock_capacity f fd ["self", "cell", "rock_capacity"]
  d_set_temperature : ∃ f fd, Mt K CV "Reservoir.set_temperature" "set_temperature" s_set_temperature f fd ["self", "cell", "temperature"]
  d_set_all_temperatures : ∃ f fd, Mt K CV "Reservoir.set_all_temperatures" "set_all_temperatures" s_set_all_temperatures f fd ["self", "temperature"]
  d_set_injection_temperature : ∃ f fd, Mt K CV "Reservoir.set_injection_temperature" "set_injection_temperature" s_set_injection_temperature f fd ["self", "temperature"]
  d_run_steps : ∃ f fd, Mt K CV "Reservoir.run_steps" "run_steps" s_run_steps f fd ["self", "steps"]
  d_advance : ∃ f fd, Mt K CV "Reservoir.advance" "advance" s_advance f fd ["self"]
  d_advance_many : ∃ f fd, Mt K CV "Reservoir.advance_many" "advance_many" s_advance_many f fd ["self", "steps"]
  d_equilibrate : ∃ f fd, Mt K CV "Reservoir.equilibrate" "equilibrate" s_equilibrate f fd ["self"]
  d_next_parcels : ∃ f fd, Mt K CV "Reservoir.next_parcels" "next_parcels" s_next_parcels f fd ["self", "count"]
  d_forecast : ∃ f fd, Mt K CV "Reservoir.forecast" "forecast" s_forecast f fd ["self", "count"]
  d_get_cell : ∃ f fd, Mt K CV "Reservoir.get_cell" "get_cell" s_get_cell f fd ["self", "cell"]
  d_total_heat : ∃ f fd, Mt K CV "Reservoir.total_heat" "total_heat" s_total_heat f fd ["self"]
  d_balance : ∃ f fd, Mt K CV "Reservoir.balance" "balance" s_balance f fd ["self"]
  d_hottest : ∃ f fd, Mt K CV "Reservoir.hottest" "hottest" s_hottest f fd ["self"]
  d_coldest : ∃ f fd, Mt K CV "Reservoir.coldest" "coldest" s_coldest f fd ["self"]
  d_breakthrough : ∃ f fd, Mt K CV "Reservoir.breakthrough" "breakthrough" s_breakthrough f fd ["self", "temperature"]
  d_save_profile : ∃ f fd, Mt K CV "Reservoir.save_profile" "save_profile" s_save_profile f fd ["self"]
  d_compare_with_saved : ∃ f fd, Mt K CV "Reservoir.compare_with_saved" "compare_with_saved" s_compare_with_saved f fd ["self"]
  d_average_with_saved : ∃ f fd, Mt K CV "Reservoir.average_with_saved" "average_with_saved" s_average_with_saved f fd ["self"]
  d_reverse : ∃ f fd, Mt K CV "Reservoir.reverse" "reverse" s_reverse f fd ["self"]
  d_excess_heat : ∃ f fd, Mt K CV "Reservoir.excess_heat" "excess_heat" s_excess_heat f fd ["self", "temperature"]
  d_summary : ∃ f fd, Mt K CV "Reservoir.summary" "summary" s_summary f fd ["self"]
  d_perform_setting : ∃ f fd, Df K mg "perform_setting" s_perform_setting f fd ["reservoir", "call", "arguments"]
  d_perform_steps : ∃ f fd, Df K mg "perform_steps" s_perform_steps f fd ["reservoir", "call", "arguments"]
  d_perform_report : ∃ f fd, Df K mg "perform_report" s_perform_report f fd ["reservoir", "call", "arguments"]
  d_perform_profile : ∃ f fd, Df K mg "perform_profile" s_perform_profile f fd ["reservoir", "call", "arguments"]
  d_Session_init : ∃ f fd, Cz K mg "Session" "Session.__init__" CS s_Session_init f fd ["self"]
  d_perform : ∃ f fd, Mt K CS "Session.perform" "perform" s_perform f fd ["self", "call", "arguments"]
  d_answer : ∃ f fd, Mt K CS "Session.answer" "answer" s_answer f fd ["self", "call", "arguments"]
  d_answers : ∃ f fd, Df K mg "answers" s_answers f fd ["calls"]
end L2.CfX

end
section
/-! The defs of ratios.py keep their promises. -/
namespace L2.CfX
open PySem PySem.Spec PyProof.Rows L2
open Kqk1 (Cell Reservoir Request Result)
open Cf (Sm Bd CellSm RowSm StepsSm SumSm RowOk advN outs temps caps nowhere small sumR moved)
section
variable {P : Program} {w : World} {K : PySem.W.Frag} {mg : Str → Option Value} {base : Heap} {CR CV CS : Addr}
theorem c_common_divisor (T : Txt K mg CR CV CS) : Cal P w K mg base CX0 1 "common_divisor" ["one", "other"] spGcd := by
  refine cal_mk T.d_common_divisor fun f fd F => F.ok sc_common_divisor (by rintro vs H Q E ⟨a, b, rfl, _⟩; rfl) fun cdv A outer s H vs Q E hr h => ?_
  obtain ⟨a, b, rfl, k⟩ := h
  refine ⟨_, (pss_cons (ps_while PassesOwn.never (pt_cmpR op_ne (pv 1) pe_int (nomark _)) (pss_one (ps_par (i := 0) (j := 1) (by rfl) sc_common_divisor.nd rfl rfl (by decide) rfl rfl (pa_cons (pv 1) (pa_cons (pe_op op_mod (pv 0) (pv 1)) pa_nil)) (by rfl))))
    (pss_one (ps_ret (pv 0)))), ?_⟩
  refine while_by (fun σ H' => H' = H ∧ ∃ x y : Nat, σ = [some (.int x), some (.int y)] ∧ Nat.gcd x y = Nat.gcd a b) (fun σ _ => match σ with | [_, some (.int y)] => y.toNat | _ => 0) ⟨rfl, a, b, rfl, rfl⟩ ?_ ?_
  · rintro σ H' ⟨rfl, x, y, rfl, e⟩
    refine ⟨_, rfl, rfl, _, rfl, ?_⟩
    by_cases hy : y = 0
    · subst hy
      have z : (!decide (V.int ((0 : Nat) : Int) = V.int 0)) = false := by simp
      rw [z]
      refine iteF ?_
      refine ⟨_, rfl, ?_⟩
      rw [Nat.gcd_zero_right] at e
      rw [e]
      exact k
    · have z : (!decide (V.int (y : Int) = V.int 0)) = true := by simp; omega
      rw [z]
      refine iteT ?_
      have hy0 : (0 : Int) < (y : Int) := by omega
      refine ⟨_, rfl, _, rfl, _, rfl, _, _, rfl, rfl, hy0, _, _, rfl, ?_⟩
      have em : (x : Int) % (y : Int) = ((x % y : Nat) : Int) := (Int.natCast_emod x y).symm
      refine ⟨⟨rfl, y, x % y, ?_, ?_⟩, ?_⟩
      · show [some (V.int (y : Int)), some (V.int ((x : Int) % (y : Int)))] = _
        rw [em]
      · rw [← e, Nat.gcd_comm x y, Nat.gcd_rec y x, Nat.gcd_comm]
      · show ((x : Int) % (y : Int)).toNat < (y : Int).toNat
        rw [em]
        have := Nat.mod_lt x (Nat.pos_of_ne_zero hy)
        omega
  · rintro σ H' Q1 Q2 m ⟨v, e, sc, z, ez, q⟩
    exact ⟨v, e, sc, z, ez, m _ _ q⟩
theorem abs_nat (n : Int) : (if n < 0 then -n else n) = ((n.natAbs : Nat) : Int) := by
  split <;> omega
theorem c_ratio (T : Txt K mg CR CV CS) : Cal P w K mg base CX0 2 "ratio" ["numerator", "denominator"] (spRatio K) := by
  refine cal_mk T.d_ratio fun f fd F => F.ok sc_ratio (by rintro vs H Q E ⟨a, b, rfl, _⟩; rfl) fun cdv A outer s H vs Q E hr h => ?_
  have G_common_divisor := c_common_divisor (P := P) (w := w) (base := base) T
  obtain ⟨n, d, rfl, d0, d9, k⟩ := h
  refine ⟨_, (pss_cons (ps_set (i := 2) sc_ratio.nd rfl (Or.inl rfl) (pe_fn G_common_divisor hr (by decide) rfl (by exact (pa_cons (pe_callB call_abs (by rfl) T.m_abs (by decide +kernel) (pa_cons (pv 0) pa_nil)) (pa_cons (pv 1) pa_nil)))))
    (pss_one (ps_ret (pe_tup (pa_cons (pe_op op_fdivW (pv 0) (pv 2)) (pa_cons (pe_op op_fdivW (pv 1) (pv 2)) pa_nil)))))), ?_⟩
  have hg0 : 0 < Nat.gcd n.natAbs d := Nat.gcd_pos_of_pos_right _ d0
  have hgd : Nat.gcd n.natAbs d ≤ d := Nat.le_of_dvd d0 (Nat.gcd_dvd_right ..)
  have hc : CDivW n ((Nat.gcd n.natAbs d : Nat) : Int) := wide_div (by omega) (b := 9000) (by rw [Int.natAbs_natCast]; exact Nat.lt_of_le_of_lt hgd d9) (by decide) (by decide)
  have hc2 : CDivW (d : Int) ((Nat.gcd n.natAbs d : Nat) : Int) := ⟨hc.1, hc.2⟩
  refine ⟨_, rfl, _, rfl, _, rfl, n.natAbs, d, ?_, ?_⟩
  · rw [abs_nat]
    rfl
  refine ⟨_, rfl, _, rfl, _, _, rfl, rfl, hc, _, rfl, _, rfl, _, _, rfl, rfl, hc2, (by show 2 ≤ sizeLine; decide), fun p hp => ?_⟩
  refine k _ p (Same.new hp) (.inl ?_)
  rw [upd_same]
  unfold frV
  rw [Cf.mk_num n d d0, Cf.mk_den n d d0, Int.natCast_ediv]
theorem c_whole (T : Txt K mg CR CV CS) : Cal P w K mg base CX0 1 "whole" ["number"] (spWhole K) := by
  refine cal_mk T.d_whole fun f fd F => F.ok sc_whole (by rintro vs H Q E ⟨a, rfl, _⟩; rfl) fun cdv A outer s H vs Q E hr h => ?_
  obtain ⟨n, rfl, k⟩ := h
  refine ⟨_, (pss_one (ps_ret (pe_tup (pa_cons (pv 0) (pa_cons pe_int pa_nil))))), ?_⟩
  refine ⟨_, rfl, (by show 2 ≤ sizeLine; decide), fun p hp => ?_⟩
  refine k _ p (Same.new hp) (.inl ?_)
  rw [upd_same]
  unfold frV
  rw [Cf.whole_num, Cf.whole_den]
  rfl
theorem den9 {q r : Rat} (hq : Sm q) (hr : Sm r) : q.den * r.den < 2 ^ 9000 := by
  refine Nat.lt_of_lt_of_le (Nat.mul_lt_mul'' hq.den hr.den) ?_
  rw [← Nat.pow_add]
  exact Nat.pow_le_pow_right (by decide) (by decide)
theorem c_plus (T : Txt K mg CR CV CS) : Cal P w K mg base CX0 3 "plus" ["one", "other"] (spPlus K) := by
  refine cal_mk T.d_plus fun f fd F => F.ok sc_plus (by rintro vs H Q E ⟨a, b, q, r, rfl, _⟩; rfl) fun cdv A outer s H vs Q E hr h => ?_
  have G_ratio := c_ratio (P := P) (w := w) (base := base) T
  obtain ⟨a, b, q, r, rfl, ha, hb, sq, sr, k⟩ := h
  refine ⟨_, (pss_one (ps_ret (pe_fn G_ratio hr (by decide) rfl (by exact (pa_cons (pe_op op_add (pe_op op_mulW (pe_ix (r := rIxT K) ix_tup (pv 0) pe_int (fun _ _ => rfl)) (pe_ix (r := rIxT K) ix_tup (pv 1) pe_int (fun _ _ => rfl))) (pe_op op_mulW (pe_ix (r := rIxT K) ix_tup (pv 1) pe_int (fun _ _ => rfl)) (pe_ix (r := rIxT K) ix_tup (pv 0) pe_int (fun _ _ => rfl)))) (pa_cons (pe_op op_mulW (pe_ix (r := rIxT K) ix_tup (pv 0) pe_int (fun _ _ => rfl)) (pe_ix (r := rIxT K) ix_tup (pv 1) pe_int (fun _ _ => rfl))) pa_nil)))))), ?_⟩
  refine ⟨_, rfl, _, _, _, _, rfl, rfl, ha.sq, rfl, _, rfl, _, _, _, _, rfl, rfl, hb.sq, rfl, _, _, rfl, rfl, sm_mul sq sr,
    _, rfl, _, _, _, _, rfl, rfl, hb.sq, rfl, _, rfl, _, _, _, _, rfl, rfl, ha.sq, rfl, _, _, rfl, rfl, sm_mul sr sq, _, _, rfl, rfl,
    _, rfl, _, _, _, _, rfl, rfl, ha.sq, rfl, _, rfl, _, _, _, _, rfl, rfl, hb.sq, rfl, _, _, rfl, rfl, sm_den sq sr, ?_⟩
  refine ⟨_, q.den * r.den, rfl, Nat.mul_pos q.den_pos r.den_pos, den9 sq sr, ?_⟩
  rw [← Cf.add_mk]
  exact k
theorem c_times (T : Txt K mg CR CV CS) : Cal P w K mg base CX0 3 "times" ["fraction", "factor"] (spTimes K) := by
  refine cal_mk T.d_times fun f fd F => F.ok sc_times (by rintro vs H Q E ⟨a, q, k, rfl, _⟩; rfl) fun cdv A outer s H vs Q E hr h => ?_
  have G_ratio := c_ratio (P := P) (w := w) (base := base) T
  obtain ⟨a, q, z, rfl, ha, sq, hz, k⟩ := h
  refine ⟨_, (pss_one (ps_ret (pe_fn G_ratio hr (by decide) rfl (by exact (pa_cons (pe_op op_mulW (pe_ix (r := rIxT K) ix_tup (pv 0) pe_int (fun _ _ => rfl)) (pv 1)) (pa_cons (pe_ix (r := rIxT K) ix_tup (pv 0) pe_int (fun _ _ => rfl)) pa_nil)))))), ?_⟩
  refine ⟨_, rfl, _, _, _, _, rfl, rfl, ha.sq, rfl, _, rfl, _, _, rfl, rfl, mul_ok sq.num hz (by decide) (by decide) (by decide),
    _, rfl, _, _, _, _, rfl, rfl, ha.sq, rfl, ?_⟩
  refine ⟨_, q.den, rfl, q.den_pos, Nat.lt_trans sq.den (Nat.pow_lt_pow_right (by decide) (by decide)), ?_⟩
  rw [← Cf.mul_mk]
  exact k
theorem c_divided (T : Txt K mg CR CV CS) : Cal P w K mg base CX0 3 "divided" ["fraction", "divisor"] (spDivided K) := by
  refine cal_mk T.d_divided fun f fd F => F.ok sc_divided (by rintro vs H Q E ⟨a, q, k, rfl, _⟩; rfl) fun cdv A outer s H vs Q E hr h => ?_
  have G_ratio := c_ratio (P := P) (w := w) (base := base) T
  obtain ⟨a, q, n, rfl, ha, sq, n0, hn, k⟩ := h
  refine ⟨_, (pss_one (ps_ret (pe_fn G_ratio hr (by decide) rfl (by exact (pa_cons (pe_ix (r := rIxT K) ix_tup (pv 0) pe_int (fun _ _ => rfl)) (pa_cons (pe_op op_mulW (pe_ix (r := rIxT K) ix_tup (pv 0) pe_int (fun _ _ => rfl)) (pv 1)) pa_nil)))))), ?_⟩
  refine ⟨_, rfl, _, _, _, _, rfl, rfl, ha.sq, rfl, _, rfl, _, _, _, _, rfl, rfl, ha.sq, rfl, _, rfl, _, _, rfl, rfl, mul_ok (m := 4000) (n := 64) (by rw [Int.natAbs_natCast]; exact sq.den) (by rw [Int.natAbs_natCast]; exact hn) (by decide) (by decide) (by decide), ?_⟩
  refine ⟨_, q.den * n, rfl, Nat.mul_pos q.den_pos n0, ?_, ?_⟩
  · refine Nat.lt_of_lt_of_le (Nat.mul_lt_mul'' sq.den hn) ?_
    rw [← Nat.pow_add]
    exact Nat.pow_le_pow_right (by decide) (by decide)
  · rw [← Cf.div_mk q n n0]
    exact k
theorem c_is_below (T : Txt K mg CR CV CS) : Cal P w K mg base CX0 1 "is_below" ["one", "other"] (spBelow K) := by
  refine cal_mk T.d_is_below fun f fd F => F.ok sc_is_below (by rintro vs H Q E ⟨a, b, q, r, rfl, _⟩; rfl) fun cdv A outer s H vs Q E hr h => ?_
  obtain ⟨a, b, q, r, rfl, ha, hb, sq, sr, k⟩ := h
  refine ⟨_, (pss_one (ps_ret (pe_cmpR op_lt (pe_op op_mulW (pe_ix (r := rIxT K) ix_tup (pv 0) pe_int (fun _ _ => rfl)) (pe_ix (r := rIxT K) ix_tup (pv 1) pe_int (fun _ _ => rfl))) (pe_op op_mulW (pe_ix (r := rIxT K) ix_tup (pv 1) pe_int (fun _ _ => rfl)) (pe_ix (r := rIxT K) ix_tup (pv 0) pe_int (fun _ _ => rfl))) (nomark _)))), ?_⟩
  refine ⟨_, rfl, _, _, _, _, rfl, rfl, ha.sq, rfl, _, rfl, _, _, _, _, rfl, rfl, hb.sq, rfl, _, _, rfl, rfl, sm_mul sq sr,
    _, rfl, _, _, _, _, rfl, rfl, hb.sq, rfl, _, rfl, _, _, _, _, rfl, rfl, ha.sq, rfl, _, _, rfl, rfl, sm_mul sr sq, _, _, rfl, rfl, ?_⟩
  have e : decide (q.num * (r.den : Int) < r.num * (q.den : Int)) = decide (q < r) := decide_eq_decide.mpr (Cf.lt_mk q r).symm
  show Q (.bl (decide (q.num * (r.den : Int) < r.num * (q.den : Int)))) H
  rw [e]
  exact k
end
end L2.CfX

end
section
/-! Sums, greatest and least; the defs of cells.py, the first half. -/
namespace L2.CfX
open PySem PySem.Spec PyProof.Rows L2
open Kqk1 (Cell Reservoir Request Result)
open Cf (Sm Bd CellSm RowSm StepsSm SumSm RowOk advN outs temps caps nowhere small sumR moved)
theorem size8 {n : Nat} (h : n ≤ 1000) : n < sizeLine := Nat.lt_of_le_of_lt h (by decide)
theorem size8' {n : Nat} (h : n ≤ 1000) : n ≤ sizeLine := Nat.le_of_lt (size8 h)
theorem take_one {α : Type} {l : List α} {i : Nat} {z : α} (h : l[i]? = some z) : l.take (i + 1) = l.take i ++ [z] := by
  rw [List.take_succ, h] <;> rfl
theorem map_at {α β : Type} {f : α → β} {l : List α} {i : Nat} {z : β} (h : (l.map f)[i]? = some z) : ∃ c, l[i]? = some c ∧ z = f c := by
  rw [List.getElem?_map] at h
  cases e : l[i]? with
  | none =>
    rw [e] at h
    cases h
  | some c =>
    rw [e] at h
    exact ⟨c, rfl, (Option.some.inj h).symm⟩
theorem mem_at {α : Type} {l : List α} {i : Nat} {z : α} (h : l[i]? = some z) : z ∈ l := List.mem_of_getElem? h
theorem LsAt.sq {α : Type} {P : Hp → Addr → α → Prop} {K : PySem.W.Frag} {H : Hp} {a : Addr} {zs : List α} (h : LsAt P H a zs) : ∃ as, H a = some (.lst (as.map V.ref)) ∧ as.length = zs.length ∧ SqL K H a (as.map V.ref) ∧ SeqOf (P H) as zs := by
  obtain ⟨as, h1, h2⟩ := h
  exact ⟨as, h1, h2.len, SqL.of h1, h2⟩
section
variable {P : Program} {w : World} {K : PySem.W.Frag} {mg : Str → Option Value} {base : Heap} {CR CV CS : Addr}
theorem c_sum_of (T : Txt K mg CR CV CS) : Cal P w K mg base CX0 4 "sum_of" ["fractions"] (spSumOf K) := by
  refine cal_mk T.d_sum_of fun f fd F => F.ok sc_sum_of (by rintro vs H Q E ⟨a, qs, rfl, _⟩; rfl) fun cdv A outer s H vs Q E hr h => ?_
  have G_plus := c_plus (P := P) (w := w) (base := base) T
  obtain ⟨aZ, gZ, kZ⟩ := T.g_ZERO
  obtain ⟨a, qs, rfl, hl, sm, k⟩ := h
  refine ⟨_, (pss_cons (ps_set (i := 1) sc_sum_of.nd rfl (Or.inl rfl) (pe_glob (v := .ref aZ) rfl gZ rfl))
    (pss_cons (ps_for PassesOwn.never rfl (pi_list (pv 0)) (pg_name (i := 2) sc_sum_of.nd rfl (Or.inl rfl))
      (pss_one (ps_set (i := 1) sc_sum_of.nd rfl (Or.inl rfl) (pe_fn G_plus hr (by decide) rfl (by exact (pa_cons (pv 1) (pa_cons (pv 2) pa_nil)))))))
    (pss_one (ps_ret (pv 1))))), ?_⟩
  obtain ⟨as, ha, hn, hq, sq⟩ := hl.sq (K := K)
  refine ⟨_, rfl, a, rfl, ⟨_, hq⟩, for_list (K := K) (a := a) (xs := as.map V.ref) (fun i σ H' => ∃ p v, σ = [some (.ref a), some (.ref p), v] ∧ Same H H' ∧ FrAt K H' p (sumR (qs.take i)))
    ⟨aZ, none, rfl, Same.refl H, .inr kZ⟩ (fun i σ H' _ ⟨_, _, _, s1, _⟩ => s1.seq hq) ?_ ?_⟩
  · rintro i x σ H' hi ⟨p, v, rfl, s1, hp⟩
    obtain ⟨b, hb, rfl⟩ := ref_at hi
    obtain ⟨q, hqi, fb⟩ := sq.of_at hb
    refine ⟨_, rfl, _, rfl, p, b, _, q, rfl, hp, fb.keep (TK.of s1), sm.part i (Nat.le_of_lt (List.getElem?_eq_some_iff.mp hqi).1), sm.each q (mem_at hqi), fun H2 p2 s2 f2 => ?_⟩
    refine ⟨p2, some (.ref b), rfl, Same.trans s1 s2, ?_⟩
    rw [take_one hqi, Cf.sumR_snoc]
    exact f2
  · rintro σ H' ⟨p, v, rfl, s1, hp⟩
    rw [List.length_map, hn, List.take_length] at hp
    exact ⟨_, rfl, k H' p s1 hp⟩
theorem great_mem {qs : List Rat} (h : qs ≠ []) (i : Nat) : (qs.take i).foldl (fun x y => if x < y then y else x) (qs.headD 0) ∈ qs := by
  rcases (Cf.fold_max (qs.take i) (qs.headD 0)).1 with e | e
  · rw [e]
    exact Cf.headD_mem h
  · exact List.mem_of_mem_take e
theorem least_mem {qs : List Rat} (h : qs ≠ []) (i : Nat) : (qs.take i).foldl (fun x y => if y < x then y else x) (qs.headD 0) ∈ qs := by
  rcases (Cf.fold_min (qs.take i) (qs.headD 0)).1 with e | e
  · rw [e]
    exact Cf.headD_mem h
  · exact List.mem_of_mem_take e
theorem head_at {qs : List Rat} (h : qs ≠ []) : qs[0]? = some (qs.headD 0) := by
  cases qs with
  | nil => exact absurd rfl h
  | cons q qs => rfl
theorem c_greatest_of (T : Txt K mg CR CV CS) : Cal P w K mg base CX0 2 "greatest_of" ["fractions"] (spGreatest K) := by
  refine cal_mk T.d_greatest_of fun f fd F => F.ok sc_greatest_of (by rintro vs H Q E ⟨a, qs, rfl, _⟩; rfl) fun cdv A outer s H vs Q E hr h => ?_
  have G_is_below := c_is_below (P := P) (w := w) (base := base) T
  obtain ⟨a, qs, rfl, hl, ne, sm, k⟩ := h
  refine ⟨_, (pss_cons (ps_set (i := 1) sc_greatest_of.nd rfl (Or.inl rfl) (pe_ix (r := rIxL K) ix_list (pv 0) pe_int (fun _ _ => rfl)))
    (pss_cons (ps_for PassesOwn.never rfl (pi_list (pv 0)) (pg_name (i := 2) sc_greatest_of.nd rfl (Or.inl rfl))
      (pss_one (ps_if (pt_val (pe_fn G_is_below hr (by decide) rfl (by exact (pa_cons (pv 1) (pa_cons (pv 2) pa_nil))))) (pss_one (ps_set (i := 1) sc_greatest_of.nd rfl (Or.inl rfl) (pv 2))) pss_nil)))
    (pss_one (ps_ret (pv 1))))), ?_⟩
  obtain ⟨as, ha, hn, hq, sq⟩ := hl.sq (K := K)
  obtain ⟨b0, hb0, f0⟩ := sq.at (head_at ne)
  refine ⟨_, rfl, a, _, _, _, rfl, rfl, hq, atI_nat (j := 0) (at_ref hb0), ?_⟩
  refine ⟨_, rfl, a, rfl, ⟨_, hq⟩, for_list (K := K) (a := a) (xs := as.map V.ref) (fun i σ H' => ∃ p v, σ = [some (.ref a), some (.ref p), v] ∧ H' = H ∧ FrAt K H p ((qs.take i).foldl (fun x y => if x < y then y else x) (qs.headD 0)))
    ⟨b0, none, rfl, rfl, f0⟩ (fun i σ H' _ ⟨_, _, _, e, _⟩ => e ▸ hq) ?_ ?_⟩
  · rintro i x σ H' hi ⟨p, v, rfl, rfl, hp⟩
    obtain ⟨b, hb, rfl⟩ := ref_at hi
    obtain ⟨q, hqi, fb⟩ := sq.of_at hb
    refine ⟨_, rfl, _, rfl, p, b, _, q, rfl, hp, fb, sm _ (great_mem ne i), sm q (mem_at hqi), _, rfl, ?_⟩
    have step : (qs.take (i + 1)).foldl (fun x y => if x < y then y else x) (qs.headD 0) = (if (qs.take i).foldl (fun x y => if x < y then y else x) (qs.headD 0) < q then q else (qs.take i).foldl (fun x y => if x < y then y else x) (qs.headD 0)) := by
      rw [take_one hqi, List.foldl_append]
      rfl
    by_cases hc : (qs.take i).foldl (fun x y => if x < y then y else x) (qs.headD 0) < q
    · rw [if_pos hc] at step
      rw [decide_eq_true hc]
      refine iteT ⟨_, rfl, b, _, rfl, rfl, ?_⟩
      rw [step]
      exact fb
    · rw [if_neg hc] at step
      rw [decide_eq_false hc]
      refine iteF ⟨p, _, rfl, rfl, ?_⟩
      rw [step]
      exact hp
  · rintro σ H' ⟨p, v, rfl, rfl, hp⟩
    rw [List.length_map, hn, List.take_length] at hp
    exact ⟨_, rfl, k p hp⟩
theorem c_least_of (T : Txt K mg CR CV CS) : Cal P w K mg base CX0 2 "least_of" ["fractions"] (spLeast K) := by
  refine cal_mk T.d_least_of fun f fd F => F.ok sc_least_of (by rintro vs H Q E ⟨a, qs, rfl, _⟩; rfl) fun cdv A outer s H vs Q E hr h => ?_
  have G_is_below := c_is_below (P := P) (w := w) (base := base) T
  obtain ⟨a, qs, rfl, hl, ne, sm, k⟩ := h
  refine ⟨_, (pss_cons (ps_set (i := 1) sc_least_of.nd rfl (Or.inl rfl) (pe_ix (r := rIxL K) ix_list (pv 0) pe_int (fun _ _ => rfl)))
    (pss_cons (ps_for PassesOwn.never rfl (pi_list (pv 0)) (pg_name (i := 2) sc_least_of.nd rfl (Or.inl rfl))
      (pss_one (ps_if (pt_val (pe_fn G_is_below hr (by decide) rfl (by exact (pa_cons (pv 2) (pa_cons (pv 1) pa_nil))))) (pss_one (ps_set (i := 1) sc_least_of.nd rfl (Or.inl rfl) (pv 2))) pss_nil)))
    (pss_one (ps_ret (pv 1))))), ?_⟩
  obtain ⟨as, ha, hn, hq, sq⟩ := hl.sq (K := K)
  obtain ⟨b0, hb0, f0⟩ := sq.at (head_at ne)
  refine ⟨_, rfl, a, _, _, _, rfl, rfl, hq, atI_nat (j := 0) (at_ref hb0), ?_⟩
  refine ⟨_, rfl, a, rfl, ⟨_, hq⟩, for_list (K := K) (a := a) (xs := as.map V.ref) (fun i σ H' => ∃ p v, σ = [some (.ref a), some (.ref p), v] ∧ H' = H ∧ FrAt K H p ((qs.take i).foldl (fun x y => if y < x then y else x) (qs.headD 0)))
    ⟨b0, none, rfl, rfl, f0⟩ (fun i σ H' _ ⟨_, _, _, e, _⟩ => e ▸ hq) ?_ ?_⟩
  · rintro i x σ H' hi ⟨p, v, rfl, rfl, hp⟩
    obtain ⟨b, hb, rfl⟩ := ref_at hi
    obtain ⟨q, hqi, fb⟩ := sq.of_at hb
    refine ⟨_, rfl, _, rfl, b, p, q, _, rfl, fb, hp, sm q (mem_at hqi), sm _ (least_mem ne i), _, rfl, ?_⟩
    have step : (qs.take (i + 1)).foldl (fun x y => if y < x then y else x) (qs.headD 0) = (if q < (qs.take i).foldl (fun x y => if y < x then y else x) (qs.headD 0) then q else (qs.take i).foldl (fun x y => if y < x then y else x) (qs.headD 0)) := by
      rw [take_one hqi, List.foldl_append]
      rfl
    by_cases hc : q < (qs.take i).foldl (fun x y => if y < x then y else x) (qs.headD 0)
    · rw [if_pos hc] at step
      rw [decide_eq_true hc]
      refine iteT ⟨_, rfl, b, _, rfl, rfl, ?_⟩
      rw [step]
      exact fb
    · rw [if_neg hc] at step
      rw [decide_eq_false hc]
      refine iteF ⟨p, _, rfl, rfl, ?_⟩
      rw [step]
      exact hp
  · rintro σ H' ⟨p, v, rfl, rfl, hp⟩
    rw [List.length_map, hn, List.take_length] at hp
    exact ⟨_, rfl, k p hp⟩
theorem cap_small {n : Nat} (h : n ≤ 20) : ((n : Int)).natAbs < 2 ^ 64 := by
  rw [Int.natAbs_natCast]
  exact Nat.lt_of_le_of_lt h (by decide)
theorem c_equilibrated (T : Txt K mg CR CV CS) : Cal P w K mg base CX0 4 "equilibrated" ["cell"] (spEquil K) := by
  refine cal_mk T.d_equilibrated fun f fd F => F.ok sc_equilibrated (by rintro vs H Q E ⟨a, c, rfl, _⟩; rfl) fun cdv A outer s H vs Q E hr h => ?_
  have G_plus := c_plus (P := P) (w := w) (base := base) T
  have G_times := c_times (P := P) (w := w) (base := base) T
  have G_divided := c_divided (P := P) (w := w) (base := base) T
  obtain ⟨a, c, rfl, ⟨ra, wa, h1, h2, h3⟩, sm, k⟩ := h
  refine ⟨_, (pss_cons (ps_asg (pv 0) (pg_tup rfl (pgs_cons (pg_name (i := 1) sc_equilibrated.nd rfl (Or.inl rfl)) (pgs_cons (pg_name (i := 2) sc_equilibrated.nd rfl (Or.inl rfl)) (pgs_cons (pg_name (i := 3) sc_equilibrated.nd rfl (Or.inl rfl)) pgs_nil)))))
    (pss_cons (ps_set (i := 4) sc_equilibrated.nd rfl (Or.inl rfl) (pe_fn G_divided hr (by decide) rfl (by exact (pa_cons (pe_fn G_plus hr (by decide) rfl (by exact (pa_cons (pe_fn G_times hr (by decide) rfl (by exact (pa_cons (pv 2) (pa_cons (pv 1) pa_nil)))) (pa_cons (pv 3) pa_nil)))) (pa_cons (pe_op op_add (pv 1) pe_int) pa_nil)))))
    (pss_one (ps_ret (pe_tup (pa_cons (pv 1) (pa_cons (pv 4) (pa_cons (pv 4) pa_nil)))))))), ?_⟩
  refine ⟨_, rfl, a, _, rfl, h1.sq, rfl, _, _, rfl, _, _, rfl, _, _, rfl, rfl, ?_⟩
  refine ⟨_, rfl, _, rfl, ra, _, (c.rockCapacity : Int), rfl, h2, sm.rock, cap_small sm.cap, fun H1 p1 s1 f1 => ?_⟩
  refine ⟨_, rfl, p1, wa, _, _, rfl, f1, h3.keep (TK.of s1), sm.prod, sm.water, fun H2 p2 s2 f2 => ?_⟩
  refine ⟨_, rfl, _, _, rfl, rfl, p2, _, c.rockCapacity + 1, rfl, f2, sm.sum, Nat.succ_pos _, Nat.lt_of_le_of_lt (Nat.succ_le_succ sm.cap) (by decide), fun H3 p3 s3 f3 => ?_⟩
  refine ⟨_, rfl, _, rfl, _, rfl, (by show 3 ≤ sizeLine; decide), fun p hp => ?_⟩
  refine k _ p (Same.trans s1 (Same.trans s2 (Same.trans s3 (Same.new hp)))) ?_
  rw [Cf.equilibrated_eq]
  exact ⟨p3, p3, .inl upd_same, f3.keep (TK.new hp), f3.keep (TK.new hp)⟩
theorem c_all_equilibrated (T : Txt K mg CR CV CS) : Cal P w K mg base CX0 5 "all_equilibrated" ["row"] (spAllEq K) := by
  refine cal_mk T.d_all_equilibrated fun f fd F => F.ok sc_all_equilibrated (by rintro vs H Q E ⟨a, c, rfl, _⟩; rfl) fun cdv A outer s H vs Q E hr h => ?_
  have G_equilibrated := c_equilibrated (P := P) (w := w) (base := base) T
  obtain ⟨a, l, rfl, hl, h8, sm, k⟩ := h
  refine ⟨_, (pss_one (ps_ret (pe_lc (own := [("cell", 1)]) (g := gName 1) (tt := tYes) rfl sc_all_equilibrated.nd (pi_list (pv 0)) (blkOk_by (own := [("cell", 1)]) (N := ["row", "cell"]) (sc := defScope s_all_equilibrated) (by decide +kernel)) (fun _ _ _ _ _ => (pg_name (i := 1) sc_all_equilibrated.nd rfl (Or.inl rfl))) (fun _ _ _ _ _ => pts_nil) (fun _ _ _ _ _ => (pe_fn G_equilibrated hr (by decide) rfl (by exact (pa_cons (pv 1) pa_nil))))))), ?_⟩
  obtain ⟨as, ha, hn, hq, sq⟩ := hl.sq (K := K)
  refine ⟨_, rfl, a, rfl, ⟨_, hq⟩, fun D hD => lc_refs (stab_cell (K := K)) (walk_list (K := K) (a := a) (xs := as.map V.ref)) (l.map Kqk1.equilibrated) (by rw [List.length_map, List.length_map, hn]) hD (size8 (by rw [List.length_map, hn]; omega)) (fun H2 s2 => s2.seq hq) same_at ?_ ?_⟩
  · rintro i x H1 H2 z hi hz s1 ⟨rfl, hx⟩ Q4 k4
    obtain ⟨b, hb, rfl⟩ := ref_at hx
    obtain ⟨c, hc, rfl⟩ := map_at hz
    exact ⟨rfl, _, rfl, b, c, rfl, (sq.get i b c hb hc).keep (TK.of s1), sm c (mem_at hc), fun H4 p s4 q => k4 p H4 s4 q⟩
  · exact fun H2 s2 q => k H2 D s2 hD q
theorem cut_last {xs : List V} : cutV xs none (some (-1)) = xs.dropLast := by
  have e : HT.sIx xs.length xs.length (some (-1)) = xs.length - 1 := by
    show (if (-1 : Int) < 0 then ((-1 : Int) + (xs.length : Int)).toNat else min (-1 : Int).toNat xs.length) = xs.length - 1
    rw [if_pos (by decide)]
    omega
  show (xs.drop (HT.sIx xs.length 0 none)).take (HT.sIx xs.length xs.length (some (-1)) - HT.sIx xs.length 0 none) = _
  rw [e, show HT.sIx xs.length 0 none = 0 from rfl, List.drop_zero, Nat.sub_zero, List.dropLast_eq_take]
theorem cut_take {xs : List V} (i : Nat) : cutV xs none (some (i : Int)) = xs.take i := by
  have e : HT.sIx xs.length xs.length (some (i : Int)) = min i xs.length := HT.sIx_nat _ _ _
  show (xs.drop (HT.sIx xs.length 0 none)).take (HT.sIx xs.length xs.length (some (i : Int)) - HT.sIx xs.length 0 none) = _
  rw [e, show HT.sIx xs.length 0 none = 0 from rfl, List.drop_zero, Nat.sub_zero, ← List.take_eq_take_min]
theorem cut_drop {xs : List V} (i : Nat) : cutV xs (some (i : Int)) none = xs.drop i := by
  have e : HT.sIx xs.length 0 (some (i : Int)) = min i xs.length := HT.sIx_nat _ _ _
  show (xs.drop (HT.sIx xs.length 0 (some (i : Int)))).take (HT.sIx xs.length xs.length none - HT.sIx xs.length 0 (some (i : Int))) = _
  rw [e, show HT.sIx xs.length xs.length none = xs.length from rfl]
  by_cases h : i ≤ xs.length
  · rw [Nat.min_eq_left h, List.take_of_length_le (by rw [List.length_drop]; exact Nat.le_refl _)]
  · rw [Nat.min_eq_right (by omega), List.drop_length, List.drop_of_length_le (by omega)]
    simp
theorem SeqOf.dropLast {α : Type} {P : Addr → α → Prop} {as : List Addr} {zs : List α} (h : SeqOf P as zs) : SeqOf P as.dropLast zs.dropLast := by
  rw [List.dropLast_eq_take, List.dropLast_eq_take, h.len]
  exact h.take _
theorem map_ref_dropLast (as : List Addr) : (as.map V.ref).dropLast = as.dropLast.map V.ref := by
  rw [List.map_dropLast]
theorem moved_at {inj : Rat} {l : List Cell} {i : Nat} {z : Cell} (h : (moved inj l)[i]? = some z) : ∃ c q, l[i]? = some c ∧ (inj :: l.dropLast.map Cell.water)[i]? = some q ∧ z = { c with water := q } := by
  unfold Cf.moved at h
  rw [← Cf.zip_cut] at h
  obtain ⟨⟨c, q⟩, h1, h2⟩ := map_at h
  have h1' : (List.zipWith Prod.mk l (inj :: l.dropLast.map Cell.water))[i]? = some (c, q) := h1
  obtain ⟨e1, e2⟩ := List.getElem?_zip_eq_some.mp h1'
  exact ⟨c, q, e1, e2, h2⟩
theorem c_moved (T : Txt K mg CR CV CS) : Cal P w K mg base CX0 1 "moved" ["row", "entering"] (spMoved K) := by
  refine cal_mk T.d_moved fun f fd F => F.ok sc_moved (by rintro vs H Q E ⟨a, c, l, inj, rfl, _⟩; rfl) fun cdv A outer s H vs Q E hr h => ?_
  obtain ⟨a, e, l, inj, rfl, hl, h1, h8, he, k⟩ := h
  refine ⟨_, (pss_cons (ps_set (i := 2) sc_moved.nd rfl (Or.inl rfl) (pe_op op_cat (pe_lst (pa_cons (pv 1) pa_nil)) (pe_lc (own := [("cell", 3)]) (g := gName 3) (tt := tYes) rfl sc_moved.nd (pi_list (pe_slice sl_list (pv 0) po_none (po_some (pe_un un_neg pe_int)))) (blkOk_by (own := [("cell", 3)]) (N := ["row", "entering", "waters", "cell", "water"]) (sc := defScope s_moved) (by decide +kernel)) (fun _ _ _ _ _ => (pg_name (i := 3) sc_moved.nd rfl (Or.inl rfl))) (fun _ _ _ _ _ => pts_nil) (fun _ _ _ _ _ => (pe_ix (r := rIxT K) ix_tup (pv 3) pe_int (fun _ _ => rfl))))))
    (pss_one (ps_ret (pe_lc (own := [("cell", 3), ("water", 4)]) (g := gTup K 2 (gCons (gName 3) (gCons (gName 4) gNil))) (tt := tYes) rfl sc_moved.nd (pi_zip (by rfl) T.m_zip (pa_cons (pv 0) (pa_cons (pv 2) pa_nil))) (blkOk_by (own := [("cell", 3), ("water", 4)]) (N := ["row", "entering", "waters", "cell", "water"]) (sc := defScope s_moved) (by decide +kernel)) (fun _ _ _ _ _ => (pg_tup rfl (pgs_cons (pg_name (i := 3) sc_moved.nd rfl (Or.inl rfl)) (pgs_cons (pg_name (i := 4) sc_moved.nd rfl (Or.inl rfl)) pgs_nil)))) (fun _ _ _ _ _ => pts_nil) (fun _ _ _ _ _ => (pe_tup (pa_cons (pe_ix (r := rIxT K) ix_tup (pv 3) pe_int (fun _ _ => rfl)) (pa_cons (pe_ix (r := rIxT K) ix_tup (pv 3) pe_int (fun _ _ => rfl)) (pa_cons (pv 4) pa_nil))))))))), ?_⟩
  obtain ⟨as, ha, hn, hq, sq⟩ := hl.sq (K := K)
  -- waters
  refine ⟨_, rfl, (by show 1 ≤ sizeLine; decide), fun L hL => ?_⟩
  have sL : Same H (upd H L (.lst [.ref e])) := Same.new hL
  refine ⟨_, rfl, 1, rfl, -1, rfl, a, _, rfl, sL.seq hq, fun p hp => ?_⟩
  rw [cut_last, map_ref_dropLast]
  have sp := Same.trans sL (Same.new (o := .lst (as.dropLast.map V.ref)) hp)
  refine ⟨p, rfl, ⟨_, SqL.of upd_same⟩, fun D hD => lc_refs (stab_fr (K := K)) (walk_list (K := K) (a := p) (xs := as.dropLast.map V.ref)) (l.dropLast.map Cell.water) (by rw [List.length_map, List.length_map, List.length_dropLast, List.length_dropLast, hn]) hD
    (size8 (by rw [List.length_map, List.length_dropLast, hn]; omega)) (fun H2 s2 => s2.seq (SqL.of upd_same)) same_at ?_ ?_⟩
  · rintro i x H1 H2 z hi hz s1 ⟨rfl, hx⟩ Q4 k4
    obtain ⟨b, hb, rfl⟩ := ref_at hx
    obtain ⟨c, hc, rfl⟩ := map_at hz
    obtain ⟨ra, wa, q1, q2, q3⟩ := (sq.dropLast.get i b c hb hc).keep (TK.of (Same.trans sp s1))
    exact ⟨rfl, _, rfl, b, _, _, _, rfl, rfl, q1.sq, rfl, k4 wa H2 (Same.refl _) q3⟩
  intro H2 s2 q
  obtain ⟨ws, hw, sw⟩ := q
  have eL : H2 L = some (.lst [.ref e]) := s2 _ _ (by
    rw [upd_ne (ne_of_none upd_same hp)]
    exact upd_same)
  have s02 : Same H H2 := Same.trans sp s2
  refine ⟨L, D, _, _, rfl, rfl, eL, hw, size8' (by rw [List.length_map, sw.len, List.length_map, List.length_dropLast]; show 1 + _ ≤ 1000; omega), fun W hW => ?_⟩
  have s03 : Same H (upd H2 W (.lst ([V.ref e] ++ ws.map V.ref))) := Same.trans s02 (Same.new hW)
  have hWs : upd H2 W (.lst ([V.ref e] ++ ws.map V.ref)) W = some (.lst ((e :: ws).map V.ref)) := upd_same
  have sW : SeqOf (FrAt K (upd H2 W (.lst ([V.ref e] ++ ws.map V.ref)))) (e :: ws) (inj :: l.dropLast.map Cell.water) :=
    SeqOf.append (P := FrAt K (upd H2 W (.lst ([V.ref e] ++ ws.map V.ref)))) (SeqOf.one (he.keep (TK.of s03))) (SeqOf.mono (Q := FrAt K (upd H2 W (.lst ([V.ref e] ++ ws.map V.ref)))) sw fun b z q => TupAt.keep q (TK.new hW))
  -- zip
  refine ⟨_, rfl, _, rfl, a, W, _, _, rfl, s03.seq hq, SqL.of hWs, fun D2 hD2 => lc_refs (stab_cell (K := K)) (walk_zip (K := K) (a := a) (b := W) (n := l.length) (by rw [List.length_map, List.length_map, hn, List.length_cons, sw.len, List.length_map, List.length_dropLast]; omega)) (moved inj l) (Cf.moved_len inj l) hD2
    (size8 (by omega)) (fun H4 s4 => ⟨s4.seq (s03.seq hq), s4.seq (SqL.of hWs)⟩) same_pair ?_ ?_⟩
  · rintro i x H1 H4 z hi hz s1 ⟨Tp, x1, x2, rfl, hT, rfl, hx1, hx2⟩ Q4 k4
    obtain ⟨b, hb, rfl⟩ := ref_at hx1
    obtain ⟨b2, hb2, rfl⟩ := ref_at hx2
    obtain ⟨c, q, hc, hqq, rfl⟩ := moved_at hz
    have tk : TK (upd H2 W (.lst ([V.ref e] ++ ws.map V.ref))) (upd H1 Tp (.tup [V.ref b, V.ref b2])) := TK.trans (TK.of s1) (TK.new hT)
    obtain ⟨ra, wa, q1, q2, q3⟩ := (sq.get i b c hb hc).keep (TK.trans (TK.of s03) tk)
    have q4 := (sW.get i b2 q hb2 hqq).keep tk
    refine ⟨Tp, _, rfl, SqT.of upd_same, rfl, _, _, rfl, _, _, rfl, rfl, rfl, _, rfl, b, _, _, _, rfl, rfl, q1.sq, rfl, _, rfl, b, _, _, _, rfl, rfl, q1.sq, rfl, _, rfl, (by show 3 ≤ sizeLine; decide), fun p2 hp2 => ?_⟩
    exact k4 p2 _ (Same.new hp2) ⟨ra, b2, .inl upd_same, q2.keep (TK.new hp2), q4.keep (TK.new hp2)⟩
  · exact fun H4 s4 q => k H4 D2 (Same.trans s03 s4) (s03.free hD2) q
theorem c_after_step (T : Txt K mg CR CV CS) : Cal P w K mg base CX0 6 "after_step" ["row", "entering"] (spAfterStep K) := by
  refine cal_mk T.d_after_step fun f fd F => F.ok sc_after_step (by rintro vs H Q E ⟨a, c, l, inj, rfl, _⟩; rfl) fun cdv A outer s H vs Q E hr h => ?_
  have G_moved := c_moved (P := P) (w := w) (base := base) T
  have G_all_equilibrated := c_all_equilibrated (P := P) (w := w) (base := base) T
  obtain ⟨a, e, l, inj, rfl, hl, h1, h8, he, sm, k⟩ := h
  refine ⟨_, (pss_one (ps_ret (pe_fn G_all_equilibrated hr (by decide) rfl (by exact (pa_cons (pe_fn G_moved hr (by decide) rfl (by exact (pa_cons (pv 0) (pa_cons (pv 1) pa_nil)))) pa_nil))))), ?_⟩
  refine ⟨_, rfl, _, rfl, a, e, l, inj, rfl, hl, h1, h8, he, fun H2 p s2 fp q => ?_⟩
  refine ⟨p, _, rfl, q, by rw [Cf.moved_len]; exact h8, sm, ?_⟩
  rw [← Cf.advanced_eq]
  exact k.from s2
theorem c_last_water (T : Txt K mg CR CV CS) : Cal P w K mg base CX0 1 "last_water" ["row"] (spLastWater K) := by
  refine cal_mk T.d_last_water fun f fd F => F.ok sc_last_water (by rintro vs H Q E ⟨a, l, rfl, _⟩; rfl) fun cdv A outer s H vs Q E hr h => ?_
  obtain ⟨a, l, rfl, hl, h1, k⟩ := h
  refine ⟨_, (pss_one (ps_ret (pe_ix (r := rIxT K) ix_tup (pe_ix (r := rIxL K) ix_list (pv 0) (pe_un un_neg pe_int) (fun _ _ => rfl)) pe_int (fun _ _ => rfl)))), ?_⟩
  obtain ⟨as, ha, hn, hq, sq⟩ := hl.sq (K := K)
  have hne : l ≠ [] := by rintro rfl; simp at h1
  have hlast : l[l.length - 1]? = some (l.getLast hne) := by
    rw [← List.getLast?_eq_getElem?, List.getLast?_eq_some_getLast hne]
  obtain ⟨b, hb, ra, wa, q1, q2, q3⟩ := sq.at hlast
  have e1 : atI (as.map V.ref) (-1) = some (V.ref b) := by
    have : as.map V.ref = (as.map V.ref).dropLast ++ [V.ref b] := by
      have hm : as.map V.ref ≠ [] := by
        intro z
        rw [List.map_eq_nil_iff] at z
        rw [z] at hn
        simp at hn
        omega
      have hlb : (as.map V.ref).getLast hm = V.ref b := by
        have z := List.getLast?_eq_some_getLast hm
        rw [List.getLast?_eq_getElem?, List.length_map, hn, at_ref hb] at z
        exact (Option.some.inj z).symm
      conv => lhs; rw [← List.dropLast_concat_getLast hm, hlb]
    rw [this]
    exact atI_last _ _
  refine ⟨_, rfl, 1, rfl, a, _, _, _, rfl, rfl, hq, e1, b, _, _, _, rfl, rfl, q1.sq, rfl, k wa ?_⟩
  have eo : Kqk1.outlet l = (l.getLast hne).water := by
    unfold Kqk1.outlet
    rw [List.getLast?_eq_some_getLast hne]
  rw [eo]
  exact q3
end
end L2.CfX

end
section
/-! The defs of cells.py, the second half; refusals. -/
namespace L2.CfX
open PySem PySem.Spec PyProof.Rows L2
open Kqk1 (Cell Reservoir Request Result)
open Cf (Sm Bd CellSm RowSm StepsSm SumSm RowOk advN outs temps caps nowhere small sumR moved)
section
variable {P : Program} {w : World} {K : PySem.W.Frag} {mg : Str → Option Value} {base : Heap} {CR CV CS : Addr}
theorem c_after_steps (T : Txt K mg CR CV CS) : Cal P w K mg base CX0 7 "after_steps" ["row", "entering", "steps"] (spAfterSteps K) := by
  refine cal_mk T.d_after_steps fun f fd F => F.ok sc_after_steps (by rintro vs H Q E ⟨a, e, l, inj, k, rfl, _⟩; rfl) fun cdv A outer s H vs Q E hr h => ?_
  have G_last_water := c_last_water (P := P) (w := w) (base := base) T
  have G_after_step := c_after_step (P := P) (w := w) (base := base) T
  obtain ⟨a, e, l, inj, n, rfl, hl, h8, he, sm, hn, k⟩ := h
  refine ⟨_, (pss_cons (ps_set (i := 3) sc_after_steps.nd rfl (Or.inl rfl) (pe_lst pa_nil))
    (pss_cons (ps_for PassesOwn.never rfl (pi_range1 (by rfl) T.m_range (pa_cons (pv 2) pa_nil)) (pg_name (i := 4) sc_after_steps.nd rfl (Or.inl rfl))
      (pss_cons (ps_expr (pe_bm PySem.F.plainAttrs_list PySem.F.slot_list_append PySem.F.type_list_append mt_append (pv 3) (pa_cons (pe_fn G_last_water hr (by decide) rfl (by exact (pa_cons (pv 0) pa_nil))) pa_nil)))
      (pss_one (ps_set (i := 0) sc_after_steps.nd rfl (Or.inl rfl) (pe_fn G_after_step hr (by decide) rfl (by exact (pa_cons (pv 0) (pa_cons (pv 1) pa_nil))))))))
    (pss_one (ps_ret (pe_tup (pa_cons (pv 0) (pa_cons (pv 3) pa_nil))))))), ?_⟩
  refine ⟨(by show 0 ≤ sizeLine; decide), fun r hr0 => ?_⟩
  obtain ⟨as0, ha0, _⟩ := id hl
  refine ⟨_, rfl, (n : Int), rfl, by omega, by omega, for_range (lo := 0) (n := (n : Int).toNat) (fun i σ H' => ∃ p v, σ = [some (.ref p), some (.ref e), some (.int (n : Int)), some (.ref r), v] ∧ Same H H' ∧ p ≠ r ∧ RowAt K H' p (advN inj i l) ∧ FrsAt K H' r (outs inj i l))
    ⟨a, none, rfl, Same.new hr0, ne_of_none ha0 hr0, hl.same stab_cell (Same.new hr0), [], upd_same, SeqOf.nil⟩ ?_ ?_⟩
  · rintro i σ H' hi ⟨p, v, rfl, s1, pr, hp, hout⟩
    rw [Int.toNat_natCast] at hi
    obtain ⟨rs, hrs, sr⟩ := hout
    have hlen : (advN inj i l).length = l.length := Cf.advN_len inj i l
    refine ⟨_, rfl, .inl ⟨rfl, _, SqL.of hrs⟩, _, rfl, p, _, rfl, hp, by rw [hlen]; exact sm.one, fun q hq => ?_⟩
    have hrl : rs.length = i := by rw [sr.len, Cf.outs_len]
    refine ⟨r, _, _, rfl, rfl, hrs, size8 (by rw [List.length_map, hrl]; omega), ?_⟩
    have tk : TK H' (upd H' r (.lst (rs.map V.ref ++ [V.ref q]))) := TK.lst hrs
    have hp2 : RowAt K (upd H' r (.lst (rs.map V.ref ++ [V.ref q]))) p (advN inj i l) := hp.keep stab_cell (fun o eo => by rw [upd_ne pr]; exact eo) tk
    have s2 : Same H (upd H' r (.lst (rs.map V.ref ++ [V.ref q]))) := fun b o eo => by
      rw [upd_ne (ne_of_none eo hr0)]
      exact s1 b o eo
    refine ⟨_, rfl, _, rfl, p, e, _, inj, rfl, hp2, by rw [hlen]; exact sm.one, by rw [hlen]; exact h8, he.keep (TK.of s2), sm.rows i hi, fun H3 p3 s3 f3 hp3 => ?_⟩
    refine ⟨p3, _, rfl, Same.trans s2 s3, Ne.symm (ne_of_none (upd_same (o := .lst (rs.map V.ref ++ [V.ref q]))  (H := H') (a := r)) f3), hp3, rs ++ [q], ?_, ?_⟩
    · rw [List.map_append]
      exact s3 _ _ upd_same
    · rw [Cf.outs_succ]
      exact SeqOf.append (P := FrAt K H3) (SeqOf.mono (Q := FrAt K H3) sr fun b z qq => TupAt.keep (TupAt.keep qq tk) (TK.of s3)) (SeqOf.one (TupAt.keep (TupAt.keep hq tk) (TK.of s3)))
  · rintro σ H' ⟨p, v, rfl, s1, pr, hp, hout⟩
    rw [Int.toNat_natCast] at hp hout
    refine ⟨_, rfl, _, rfl, (by show 2 ≤ sizeLine; decide), fun t ht => ?_⟩
    have st : Same H' (upd H' t (.tup [.ref p, .ref r])) := Same.new ht
    exact k _ t p r (Same.trans s1 st) upd_same (hp.same stab_cell st) (hout.same stab_fr st)
theorem c_temperatures_of (T : Txt K mg CR CV CS) : Cal P w K mg base CX0 1 "temperatures_of" ["row"] (spTemps K) := by
  refine cal_mk T.d_temperatures_of fun f fd F => F.ok sc_temperatures_of (by rintro vs H Q E ⟨a, l, rfl, _⟩; rfl) fun cdv A outer s H vs Q E hr h => ?_
  obtain ⟨a, l, rfl, hl, h8, k⟩ := h
  refine ⟨_, (pss_one (ps_ret (pe_op op_cat (pe_lc (own := [("cell", 1)]) (g := gName 1) (tt := tYes) rfl sc_temperatures_of.nd (pi_list (pv 0)) (blkOk_by (own := [("cell", 1)]) (N := ["row", "cell"]) (sc := defScope s_temperatures_of) (by decide +kernel)) (fun _ _ _ _ _ => (pg_name (i := 1) sc_temperatures_of.nd rfl (Or.inl rfl))) (fun _ _ _ _ _ => pts_nil) (fun _ _ _ _ _ => (pe_ix (r := rIxT K) ix_tup (pv 1) pe_int (fun _ _ => rfl)))) (pe_lc (own := [("cell", 1)]) (g := gName 1) (tt := tYes) rfl sc_temperatures_of.nd (pi_list (pv 0)) (blkOk_by (own := [("cell", 1)]) (N := ["row", "cell"]) (sc := defScope s_temperatures_of) (by decide +kernel)) (fun _ _ _ _ _ => (pg_name (i := 1) sc_temperatures_of.nd rfl (Or.inl rfl))) (fun _ _ _ _ _ => pts_nil) (fun _ _ _ _ _ => (pe_ix (r := rIxT K) ix_tup (pv 1) pe_int (fun _ _ => rfl))))))), ?_⟩
  obtain ⟨as, ha, hn, hq, sq⟩ := hl.sq (K := K)
  refine ⟨_, rfl, a, rfl, ⟨_, hq⟩, fun D hD => lc_refs (stab_fr (K := K)) (walk_list (K := K) (a := a) (xs := as.map V.ref)) (l.map Cell.rock) (by rw [List.length_map, List.length_map, hn]) hD (size8 (by rw [List.length_map, hn]; omega)) (fun H2 s2 => s2.seq hq) same_at ?_ ?_⟩
  · rintro i x H1 H2 z hi hz s1 ⟨rfl, hx⟩ Q4 k4
    obtain ⟨b, hb, rfl⟩ := ref_at hx
    obtain ⟨c, hc, rfl⟩ := map_at hz
    obtain ⟨ra, wa, q1, q2, q3⟩ := (sq.get i b c hb hc).keep (TK.of s1)
    exact ⟨rfl, _, rfl, b, _, _, _, rfl, rfl, q1.sq, rfl, k4 ra H2 (Same.refl _) q2⟩
  intro H2 s2 q
  obtain ⟨rs, hrs, srs⟩ := q
  refine ⟨_, rfl, a, rfl, ⟨_, s2.seq hq⟩, fun D2 hD2 => lc_refs (stab_fr (K := K)) (walk_list (K := K) (a := a) (xs := as.map V.ref)) (l.map Cell.water) (by rw [List.length_map, List.length_map, hn]) hD2 (size8 (by rw [List.length_map, hn]; omega)) (fun H4 s4 => s4.seq (s2.seq hq)) same_at ?_ ?_⟩
  · rintro i x H1 H3 z hi hz s1 ⟨rfl, hx⟩ Q4 k4
    obtain ⟨b, hb, rfl⟩ := ref_at hx
    obtain ⟨c, hc, rfl⟩ := map_at hz
    obtain ⟨ra, wa, q1, q2, q3⟩ := (sq.get i b c hb hc).keep (TK.of (Same.trans s2 s1))
    exact ⟨rfl, _, rfl, b, _, _, _, rfl, rfl, q1.sq, rfl, k4 wa _ (Same.refl _) q3⟩
  intro H4 s4 q4
  obtain ⟨ws, hws, sws⟩ := q4
  refine ⟨D, D2, _, _, rfl, rfl, s4 _ _ hrs, hws, size8' (by rw [List.length_map, List.length_map, srs.len, sws.len, List.length_map, List.length_map]; omega), fun p hp => ?_⟩
  refine k _ p (Same.trans s2 (Same.trans s4 (Same.new hp))) (s2.free (s4.free hp)) ⟨rs ++ ws, ?_, ?_⟩
  · rw [List.map_append]
    exact upd_same
  · exact SeqOf.append (P := FrAt K _) (SeqOf.mono (Q := FrAt K _) srs fun b z qq => TupAt.keep (TupAt.keep qq (TK.of s4)) (TK.new hp)) (SeqOf.mono (Q := FrAt K _) sws fun b z qq => TupAt.keep qq (TK.new hp))
theorem c_with_temperature (T : Txt K mg CR CV CS) : Cal P w K mg base CX0 1 "with_temperature" ["cell", "temperature"] (spWithTemp K) := by
  refine cal_mk T.d_with_temperature fun f fd F => F.ok sc_with_temperature (by rintro vs H Q E ⟨a, e, c, q, rfl, _⟩; rfl) fun cdv A outer s H vs Q E hr h => ?_
  obtain ⟨a, e, c, q, rfl, ⟨ra, wa, q1, q2, q3⟩, he, k⟩ := h
  refine ⟨_, (pss_one (ps_ret (pe_tup (pa_cons (pe_ix (r := rIxT K) ix_tup (pv 0) pe_int (fun _ _ => rfl)) (pa_cons (pv 1) (pa_cons (pv 1) pa_nil)))))), ?_⟩
  refine ⟨_, rfl, a, _, _, _, rfl, rfl, q1.sq, rfl, _, rfl, _, rfl, (by show 3 ≤ sizeLine; decide), fun p hp => ?_⟩
  exact k _ p (Same.new hp) ⟨e, e, .inl upd_same, he.keep (TK.new hp), he.keep (TK.new hp)⟩
theorem set_parts {α : Type} (l : List α) (i : Nat) (c : α) (h : i < l.length) : l.set i c = l.take i ++ [c] ++ l.drop (i + 1) := by
  rw [List.set_eq_take_append_cons_drop, if_pos h, List.append_assoc]
  rfl
theorem c_with_cell (T : Txt K mg CR CV CS) : Cal P w K mg base CX0 1 "with_cell" ["row", "index", "cell"] (spWithCell K) := by
  refine cal_mk T.d_with_cell fun f fd F => F.ok sc_with_cell (by rintro vs H Q E ⟨a, b, l, c, i, rfl, _⟩; rfl) fun cdv A outer s H vs Q E hr h => ?_
  obtain ⟨a, b, l, c, i, rfl, hl, h8, hi, hc, k⟩ := h
  refine ⟨_, (pss_one (ps_ret (pe_op op_cat (pe_op op_cat (pe_slice sl_list (pv 0) po_none (po_some (pv 1))) (pe_lst (pa_cons (pv 2) pa_nil))) (pe_slice sl_list (pv 0) (po_some (pe_op op_add (pv 1) pe_int)) po_none)))), ?_⟩
  obtain ⟨as, ha, hn, hq, sq⟩ := hl.sq (K := K)
  refine ⟨_, rfl, _, rfl, _, rfl, a, _, rfl, hq, fun p1 hp1 => ?_⟩
  rw [cut_take, ← List.map_take]
  have s1 : Same H (upd H p1 (.lst ((as.take i).map V.ref))) := Same.new hp1
  have e1 : upd H p1 (.lst ((as.take i).map V.ref)) p1 = some (.lst ((as.take i).map V.ref)) := upd_same
  generalize upd H p1 (.lst ((as.take i).map V.ref)) = H1 at s1 e1
  refine ⟨_, rfl, (by show 1 ≤ sizeLine; decide), fun p2 hp2 => ?_⟩
  have s2 : Same H1 (upd H1 p2 (.lst [.ref b])) := Same.new hp2
  have e2 : upd H1 p2 (.lst [.ref b]) p2 = some (.lst [.ref b]) := upd_same
  generalize upd H1 p2 (.lst [.ref b]) = H2 at s2 e2
  refine ⟨p1, p2, _, _, rfl, rfl, s2 _ _ e1, e2, size8' (by rw [List.length_map, List.length_take]; show _ + 1 ≤ 1000; omega), fun p3 hp3 => ?_⟩
  have s3 : Same H2 (upd H2 p3 (.lst ((as.take i).map V.ref ++ [V.ref b]))) := Same.new hp3
  have e3 : upd H2 p3 (.lst ((as.take i).map V.ref ++ [V.ref b])) p3 = some (.lst ((as.take i).map V.ref ++ [V.ref b])) := upd_same
  generalize upd H2 p3 (.lst ((as.take i).map V.ref ++ [V.ref b])) = H3 at s3 e3
  have s03 := Same.trans s1 (Same.trans s2 s3)
  refine ⟨_, rfl, _, rfl, _, _, rfl, rfl, _, rfl, a, _, rfl, s03.seq hq, fun p4 hp4 => ?_⟩
  have ed : cutV (as.map V.ref) (some ((i : Int) + 1)) none = (as.drop (i + 1)).map V.ref := by
    rw [List.map_drop]
    exact cut_drop (i + 1)
  rw [ed]
  have s4 : Same H3 (upd H3 p4 (.lst ((as.drop (i + 1)).map V.ref))) := Same.new hp4
  have e4 : upd H3 p4 (.lst ((as.drop (i + 1)).map V.ref)) p4 = some (.lst ((as.drop (i + 1)).map V.ref)) := upd_same
  generalize upd H3 p4 (.lst ((as.drop (i + 1)).map V.ref)) = H4 at s4 e4
  refine ⟨p3, p4, _, _, rfl, rfl, s4 _ _ e3, e4, size8' (by rw [List.length_append, List.length_map, List.length_map, List.length_take, List.length_drop]; show _ + 1 + _ ≤ 1000; omega), fun p hp => ?_⟩
  have s5 := Same.trans s03 (Same.trans s4 (Same.new (o := .lst ((as.take i).map V.ref ++ [V.ref b] ++ (as.drop (i + 1)).map V.ref)) hp))
  refine k _ p s5 (s03.free (s4.free hp)) ⟨as.take i ++ [b] ++ as.drop (i + 1), ?_, ?_⟩
  · rw [List.map_append, List.map_append]
    exact upd_same
  · rw [set_parts l i c hi]
    have sq5 := SeqOf.mono (Q := CellAt K _) sq fun b z q => CellAt.keep q (TK.of s5)
    exact SeqOf.append (SeqOf.append (sq5.take i) (SeqOf.one (hc.keep (TK.of s5)))) (sq5.drop (i + 1))
theorem c_heat_of (T : Txt K mg CR CV CS) : Cal P w K mg base CX0 5 "heat_of" ["row"] (spHeat K) := by
  refine cal_mk T.d_heat_of fun f fd F => F.ok sc_heat_of (by rintro vs H Q E ⟨a, l, rfl, _⟩; rfl) fun cdv A outer s H vs Q E hr h => ?_
  have G_plus := c_plus (P := P) (w := w) (base := base) T
  have G_times := c_times (P := P) (w := w) (base := base) T
  have G_sum_of := c_sum_of (P := P) (w := w) (base := base) T
  obtain ⟨a, l, rfl, hl, h8, rsm, ssm, k⟩ := h
  refine ⟨_, (pss_one (ps_ret (pe_fn G_sum_of hr (by decide) rfl (by exact (pa_cons (pe_lc (own := [("cell", 1)]) (g := gName 1) (tt := tYes) rfl sc_heat_of.nd (pi_list (pv 0)) (blkOk_by (own := [("cell", 1)]) (N := ["row", "cell"]) (sc := defScope s_heat_of) (by decide +kernel)) (fun _ _ _ _ _ => (pg_name (i := 1) sc_heat_of.nd rfl (Or.inl rfl))) (fun _ _ _ _ _ => pts_nil) (fun _ _ _ _ _ => (pe_fn G_plus hr (by decide) rfl (by exact (pa_cons (pe_fn G_times hr (by decide) rfl (by exact (pa_cons (pe_ix (r := rIxT K) ix_tup (pv 1) pe_int (fun _ _ => rfl)) (pa_cons (pe_ix (r := rIxT K) ix_tup (pv 1) pe_int (fun _ _ => rfl)) pa_nil)))) (pa_cons (pe_ix (r := rIxT K) ix_tup (pv 1) pe_int (fun _ _ => rfl)) pa_nil)))))) pa_nil))))), ?_⟩
  obtain ⟨as, ha, hn, hq, sq⟩ := hl.sq (K := K)
  refine ⟨_, rfl, a, rfl, ⟨_, hq⟩, fun D hD => lc_refs (stab_fr (K := K)) (walk_list (K := K) (a := a) (xs := as.map V.ref)) (l.map heat1) (by rw [List.length_map, List.length_map, hn]) hD (size8 (by rw [List.length_map, hn]; omega)) (fun H2 s2 => s2.seq hq) same_at ?_ ?_⟩
  · rintro i x H1 H2 z hi hz s1 ⟨rfl, hx⟩ Q4 k4
    obtain ⟨b, hb, rfl⟩ := ref_at hx
    obtain ⟨c, hc, rfl⟩ := map_at hz
    obtain ⟨ra, wa, q1, q2, q3⟩ := (sq.get i b c hb hc).keep (TK.of s1)
    have sm := rsm c (mem_at hc)
    refine ⟨rfl, _, rfl, b, _, _, _, rfl, rfl, q1.sq, rfl, _, rfl, b, _, _, _, rfl, rfl, q1.sq, rfl, ra, _, _, rfl, q2, sm.rock, cap_small sm.cap, fun H3 p3 s3 f3 => ?_⟩
    refine ⟨_, rfl, b, _, _, _, rfl, rfl, (q1.keep (TK.of s3)).sq, rfl, p3, wa, _, _, rfl, f3, q3.keep (TK.of s3), sm.prod, sm.water, fun H4 p4 s4 f4 => ?_⟩
    exact k4 p4 H4 (Same.trans s3 s4) f4
  · exact fun H2 s2 q => ⟨D, _, rfl, q, ssm, k.from s2⟩
theorem c_capacities_of (T : Txt K mg CR CV CS) : Cal P w K mg base CX0 1 "capacities_of" ["row"] (spCaps K) := by
  refine cal_mk T.d_capacities_of fun f fd F => F.ok sc_capacities_of (by rintro vs H Q E ⟨a, l, rfl, _⟩; rfl) fun cdv A outer s H vs Q E hr h => ?_
  obtain ⟨a, l, rfl, hl, h8, k⟩ := h
  refine ⟨_, (pss_one (ps_ret (pe_lc (own := [("cell", 1)]) (g := gName 1) (tt := tYes) rfl sc_capacities_of.nd (pi_list (pv 0)) (blkOk_by (own := [("cell", 1)]) (N := ["row", "cell"]) (sc := defScope s_capacities_of) (by decide +kernel)) (fun _ _ _ _ _ => (pg_name (i := 1) sc_capacities_of.nd rfl (Or.inl rfl))) (fun _ _ _ _ _ => pts_nil) (fun _ _ _ _ _ => (pe_ix (r := rIxT K) ix_tup (pv 1) pe_int (fun _ _ => rfl)))))), ?_⟩
  obtain ⟨as, ha, hn, hq, sq⟩ := hl.sq (K := K)
  refine ⟨_, rfl, a, rfl, ⟨_, hq⟩, fun D hD => lc_vals (walk_list (K := K) (a := a) (xs := as.map V.ref)) ((caps l).map V.int) (by unfold Cf.caps; rw [List.length_map, List.length_map, List.length_map, hn]) hD (size8 (by rw [List.length_map, hn]; omega)) (fun H2 s2 => s2.seq hq) same_at ?_ ?_⟩
  · rintro i x H1 H2 z hi hz s1 ⟨rfl, hx⟩ Q4 k4
    obtain ⟨b, hb, rfl⟩ := ref_at hx
    obtain ⟨c', hc', rfl⟩ := map_at hz
    obtain ⟨c, hc, rfl⟩ := map_at hc'
    obtain ⟨ra, wa, q1, q2, q3⟩ := (sq.get i b c hb hc).keep (TK.of s1)
    exact ⟨rfl, _, rfl, b, _, _, _, rfl, rfl, q1.sq, rfl, k4 H2 (Same.refl _)⟩
  · exact fun H2 s2 q => k H2 D s2 hD q
end
end L2.CfX

end
section
/-! Comparison and mean of rows; the error and the checks. -/
namespace L2.CfX
open PySem PySem.Spec PyProof.Rows L2
open Kqk1 (Cell Reservoir Request Result)
open Cf (Sm Bd CellSm RowSm StepsSm SumSm RowOk advN outs temps caps nowhere small sumR moved)
theorem eqv_ints : ∀ ns ms : List Int, PyData.eqvAll (ns.map PyData.int) (ms.map PyData.int) = decide (ns = ms)
  | [], [] => rfl
  | [], m :: ms => rfl
  | n :: ns, [] => rfl
  | n :: ns, m :: ms => by
    show (n == m && PyData.eqvAll (ns.map PyData.int) (ms.map PyData.int)) = _
    rw [eqv_ints ns ms]
    by_cases h : n = m
    · subst h
      by_cases h2 : ns = ms <;> simp [h2]
    · simp [h]
theorem lay_ints : ∀ ns : List Int, PyData.canLayAll0 (ns.map PyData.int) = true
  | [] => rfl
  | n :: ns => by
    show (true && PyData.canLayAll0 (ns.map PyData.int)) = true
    rw [lay_ints ns] <;> rfl
theorem deep_ints : ∀ ns : List Int, PyData.depthAll (ns.map PyData.int) = 0
  | [] => rfl
  | n :: ns => by
    show max 0 (PyData.depthAll (ns.map PyData.int)) = 0
    rw [deep_ints ns] <;> rfl
theorem shaped_ints (ns : List Int) : SeqAt.shaped (.list (ns.map PyData.int)) = true := by
  have h1 : PyData.canLay0 (.list (ns.map PyData.int)) = true := lay_ints ns
  have h2 : PyData.depth (.list (ns.map PyData.int)) = 1 := by
    show PyData.depthAll (ns.map PyData.int) + 1 = 1
    rw [deep_ints]
  show (PyData.canLay0 (.list (ns.map PyData.int)) && decide (PyData.depth (.list (ns.map PyData.int)) ≤ 64)) = true
  rw [h1, h2] <;> rfl
theorem dp_ints {K : PySem.W.Frag} {H : Hp} : ∀ ns : List Int, DpAll K H (ns.map V.int) (ns.map PyData.int)
  | [] => .nil
  | n :: ns => .cons (.int n) (dp_ints ns)
theorem zip_at {α β : Type} {l : List α} {m : List β} {i : Nat} {p : α × β} (h : (List.zip l m)[i]? = some p) : l[i]? = some p.1 ∧ m[i]? = some p.2 := by
  have h' : (List.zipWith Prod.mk l m)[i]? = some (p.1, p.2) := h
  exact List.getElem?_zip_eq_some.mp h'
section
variable {P : Program} {w : World} {K : PySem.W.Frag} {mg : Str → Option Value} {base : Heap} {CR CV CS : Addr}
theorem c_is_nowhere_colder (T : Txt K mg CR CV CS) : Cal P w K mg base CX0 2 "is_nowhere_colder" ["row", "other"] (spNowhere K) := by
  refine cal_mk T.d_is_nowhere_colder fun f fd F => F.ok sc_is_nowhere_colder (by rintro vs H Q E ⟨a, b, l, m, rfl, _⟩; rfl) fun cdv A outer s H vs Q E hr h => ?_
  have G_capacities_of := c_capacities_of (P := P) (w := w) (base := base) T
  have G_temperatures_of := c_temperatures_of (P := P) (w := w) (base := base) T
  have G_is_below := c_is_below (P := P) (w := w) (base := base) T
  obtain ⟨a, b, l, m, rfl, hl, hm, l8, m8, sl, sm, k⟩ := h
  refine ⟨_, (pss_cons (ps_if (pt_cmpR (op_neD hr.units) (pe_fn G_capacities_of hr (by decide) rfl (by exact (pa_cons (pv 0) pa_nil))) (pe_fn G_capacities_of hr (by decide) rfl (by exact (pa_cons (pv 1) pa_nil))) (nomark _)) (pss_one (ps_ret pe_bl)) pss_nil)
    (pss_cons (ps_par (i := 2) (j := 3) (by rfl) sc_is_nowhere_colder.nd rfl rfl (by decide) rfl rfl (pa_cons (pe_fn G_temperatures_of hr (by decide) rfl (by exact (pa_cons (pv 0) pa_nil))) (pa_cons (pe_fn G_temperatures_of hr (by decide) rfl (by exact (pa_cons (pv 1) pa_nil))) pa_nil)) (by rfl))
    (pss_one (ps_ret (pe_not (pe_callB (cr_any rfl) (by rfl) T.m_any (by decide +kernel) (pa_cons (pe_lc (own := [("one", 4), ("two", 5)]) (g := gTup K 2 (gCons (gName 4) (gCons (gName 5) gNil))) (tt := tYes) rfl sc_is_nowhere_colder.nd (pi_zip (by rfl) T.m_zip (pa_cons (pv 2) (pa_cons (pv 3) pa_nil))) (blkOk_by (own := [("one", 4), ("two", 5)]) (N := ["row", "other", "here", "there", "one", "two"]) (sc := defScope s_is_nowhere_colder) (by decide +kernel)) (fun _ _ _ _ _ => (pg_tup rfl (pgs_cons (pg_name (i := 4) sc_is_nowhere_colder.nd rfl (Or.inl rfl)) (pgs_cons (pg_name (i := 5) sc_is_nowhere_colder.nd rfl (Or.inl rfl)) pgs_nil)))) (fun _ _ _ _ _ => pts_nil) (fun _ _ _ _ _ => (pe_fn G_is_below hr (by decide) rfl (by exact (pa_cons (pv 4) (pa_cons (pv 5) pa_nil)))))) pa_nil))))))), ?_⟩
  refine ⟨_, rfl, a, l, rfl, hl, l8, fun H1 p1 s1 f1 e1 => ?_⟩
  refine ⟨_, rfl, b, m, rfl, hm.same stab_cell s1, m8, fun H2 p2 s2 f2 e2 => ?_⟩
  refine ⟨_, _, .lst (SqL.of (s2 _ _ e1)) (dp_ints _), .lst (SqL.of e2) (dp_ints _), shaped_ints _, shaped_ints _, _, rfl, ?_⟩
  have ee : PyData.eqv (.list ((caps l).map PyData.int)) (.list ((caps m).map PyData.int)) = decide (caps l = caps m) := eqv_ints _ _
  rw [ee]
  have s02 := Same.trans s1 s2
  by_cases hc : caps l = caps m
  · rw [decide_eq_true hc]
    refine iteF ?_
    refine ⟨_, rfl, a, l, rfl, hl.same stab_cell s02, l8, fun H3 p3 s3 f3 q3 => ?_⟩
    have s03 := Same.trans s02 s3
    refine ⟨_, rfl, b, m, rfl, hm.same stab_cell s03, m8, fun H4 p4 s4 f4 q4 => ?_⟩
    refine ⟨_, _, rfl, ?_⟩
    have s04 := Same.trans s03 s4
    obtain ⟨as, ha, hn, hq, sq⟩ := (q3.same stab_fr s4).sq (K := K)
    obtain ⟨bs, hb, hnb, hqb, sqb⟩ := q4.sq (K := K)
    have hlm : l.length = m.length := Cf.caps_len hc
    have tl : (temps l).length = l.length + l.length := by unfold Cf.temps; rw [List.length_append, List.length_map, List.length_map]
    have tm : (temps m).length = m.length + m.length := by unfold Cf.temps; rw [List.length_append, List.length_map, List.length_map]
    refine ⟨_, rfl, _, rfl, p3, p4, _, _, rfl, hq, hqb, fun D hD => lc_vals (walk_zip (K := K) (a := p3) (b := p4) (n := (temps l).length) (by rw [List.length_map, List.length_map, hn, hnb, tl, tm]; omega)) (((List.zip (temps l) (temps m)).map fun p => decide (p.1 < p.2)).map V.bl) (by rw [List.length_map, List.length_map, List.length_zip, tl, tm]; omega) hD
      (size8 (by omega)) (fun H5 s5 => ⟨s5.seq hq, s5.seq hqb⟩) same_pair ?_ ?_⟩
    · rintro i x H1' H2' z hi hz s5 ⟨Tp, x1, x2, rfl, hT, rfl, hx1, hx2⟩ Q4 k4
      obtain ⟨b1, hb1, rfl⟩ := ref_at hx1
      obtain ⟨b2, hb2, rfl⟩ := ref_at hx2
      obtain ⟨t, ht, rfl⟩ := map_at hz
      obtain ⟨⟨x, y⟩, hxy, rfl⟩ := map_at ht
      obtain ⟨ex, ey⟩ := zip_at hxy
      have tk := TK.trans (TK.of s5) (TK.new (o := .tup [V.ref b1, V.ref b2]) hT)
      exact ⟨Tp, _, rfl, SqT.of upd_same, rfl, _, _, rfl, _, _, rfl, rfl, rfl, _, rfl, _, rfl, b1, b2, x, y, rfl, TupAt.keep (sq.get i b1 x hb1 ex) tk, TupAt.keep (sqb.get i b2 y hb2 ey) tk, sl x (mem_at ex), sm y (mem_at ey), k4 _ (Same.refl _)⟩
    · intro H5 s5 q5
      refine ⟨D, _, rfl, SqL.of q5, _, rfl, ?_⟩
      have e : (!(((List.zip (temps l) (temps m)).map fun p => decide (p.1 < p.2)).any id)) = nowhere l m := by
        unfold Cf.nowhere
        rw [if_pos hc, List.any_map]
        rfl
      rw [e]
      exact k H5 (Same.trans s04 s5)
  · rw [decide_eq_false hc]
    refine iteT ?_
    have e : nowhere l m = false := by
      unfold Cf.nowhere
      rw [if_neg hc]
    have kk := k H2 s02
    rw [e] at kk
    exact kk
theorem mean_at {l m : List Cell} {i : Nat} {z : Cell} (h : (Kqk1.mean l m)[i]? = some z) : ∃ c d, l[i]? = some c ∧ m[i]? = some d ∧ z = ⟨c.rockCapacity, (c.rock + d.rock) / ((2 : Nat) : Rat), (c.water + d.water) / ((2 : Nat) : Rat)⟩ := by
  unfold Kqk1.mean at h
  obtain ⟨⟨c, d⟩, h1, h2⟩ := map_at h
  obtain ⟨e1, e2⟩ := zip_at h1
  exact ⟨c, d, e1, e2, h2⟩
theorem mean_len {l m : List Cell} (h : l.length = m.length) : (Kqk1.mean l m).length = l.length := by
  unfold Kqk1.mean
  rw [List.length_map, List.length_zip]
  omega
theorem c_mean_row (T : Txt K mg CR CV CS) : Cal P w K mg base CX0 4 "mean_row" ["row", "other"] (spMean K) := by
  refine cal_mk T.d_mean_row fun f fd F => F.ok sc_mean_row (by rintro vs H Q E ⟨a, b, l, m, rfl, _⟩; rfl) fun cdv A outer s H vs Q E hr h => ?_
  have G_plus := c_plus (P := P) (w := w) (base := base) T
  have G_divided := c_divided (P := P) (w := w) (base := base) T
  obtain ⟨a, b, l, m, rfl, hl, hm, hlm, l8, msm, k⟩ := h
  refine ⟨_, (pss_cons (ps_set (i := 2) sc_mean_row.nd rfl (Or.inl rfl) (pe_lst pa_nil))
    (pss_cons (ps_for PassesOwn.never rfl (pi_zip (by rfl) T.m_zip (pa_cons (pv 0) (pa_cons (pv 1) pa_nil))) (pg_tup rfl (pgs_cons (pg_name (i := 3) sc_mean_row.nd rfl (Or.inl rfl)) (pgs_cons (pg_name (i := 4) sc_mean_row.nd rfl (Or.inl rfl)) pgs_nil)))
      (pss_cons (ps_par (i := 5) (j := 6) (by rfl) sc_mean_row.nd rfl rfl (by decide) rfl rfl (pa_cons (pe_fn G_divided hr (by decide) rfl (by exact (pa_cons (pe_fn G_plus hr (by decide) rfl (by exact (pa_cons (pe_ix (r := rIxT K) ix_tup (pv 3) pe_int (fun _ _ => rfl)) (pa_cons (pe_ix (r := rIxT K) ix_tup (pv 4) pe_int (fun _ _ => rfl)) pa_nil)))) (pa_cons pe_int pa_nil)))) (pa_cons (pe_fn G_divided hr (by decide) rfl (by exact (pa_cons (pe_fn G_plus hr (by decide) rfl (by exact (pa_cons (pe_ix (r := rIxT K) ix_tup (pv 3) pe_int (fun _ _ => rfl)) (pa_cons (pe_ix (r := rIxT K) ix_tup (pv 4) pe_int (fun _ _ => rfl)) pa_nil)))) (pa_cons pe_int pa_nil)))) pa_nil)) (by rfl))
      (pss_one (ps_expr (pe_bm PySem.F.plainAttrs_list PySem.F.slot_list_append PySem.F.type_list_append mt_append (pv 2) (pa_cons (pe_tup (pa_cons (pe_ix (r := rIxT K) ix_tup (pv 3) pe_int (fun _ _ => rfl)) (pa_cons (pv 5) (pa_cons (pv 6) pa_nil)))) pa_nil))))))
    (pss_one (ps_ret (pv 2))))), ?_⟩
  obtain ⟨as, ha, hn, hq, sq⟩ := hl.sq (K := K)
  obtain ⟨bs, hb, hnb, hqb, sqb⟩ := hm.sq (K := K)
  refine ⟨(by show 0 ≤ sizeLine; decide), fun r hr0 => ?_⟩
  have s0 : Same H (upd H r (.lst [])) := Same.new hr0
  refine ⟨_, rfl, _, rfl, a, b, _, _, rfl, s0.seq hq, s0.seq hqb, for_it (walk_zip (K := K) (a := a) (b := b) (xs := as.map V.ref) (ys := bs.map V.ref) (n := l.length) (by rw [List.length_map, List.length_map, hn, hnb]; omega))
    (fun i σ H' => ∃ v3 v4 v5 v6, σ = [some (.ref a), some (.ref b), some (.ref r), v3, v4, v5, v6] ∧ Same H H' ∧ RowAt K H' r ((Kqk1.mean l m).take i)) ⟨none, none, none, none, rfl, s0, [], upd_same, SeqOf.nil⟩ (fun i σ H' _ ⟨_, _, _, _, _, s1, _⟩ => ⟨s1.seq hq, s1.seq hqb⟩) ?_ ?_⟩
  · rintro i x σ H1 H2 hi ⟨v3, v4, v5, v6, rfl, s1, hacc⟩ ⟨Tp, x1, x2, rfl, hT, rfl, hx1, hx2⟩
    obtain ⟨b1, hb1, rfl⟩ := ref_at hx1
    obtain ⟨b2, hb2, rfl⟩ := ref_at hx2
    have hil : i < (Kqk1.mean l m).length := by rw [mean_len hlm]; exact hi
    obtain ⟨c, d, hc, hd, ez⟩ := mean_at (List.getElem?_eq_getElem hil)
    have sT : Same H1 (upd H1 Tp (.tup [V.ref b1, V.ref b2])) := Same.new hT
    have eT : upd H1 Tp (.tup [V.ref b1, V.ref b2]) Tp = some (.tup [V.ref b1, V.ref b2]) := upd_same
    generalize upd H1 Tp (.tup [V.ref b1, V.ref b2]) = H2 at sT eT
    have s2 := Same.trans s1 sT
    obtain ⟨ra, wa, q1, q2, q3⟩ := CellAt.keep (sq.get i b1 c hb1 hc) (TK.of s2)
    obtain ⟨rb, wb, r1, r2, r3⟩ := CellAt.keep (sqb.get i b2 d hb2 hd) (TK.of s2)
    obtain ⟨m1, m2, m3, m4, m5, m6⟩ := msm i c d hc hd
    refine ⟨Tp, _, rfl, SqT.of eT, rfl, _, _, rfl, _, _, rfl, rfl, ?_⟩
    refine ⟨_, rfl, b1, _, _, _, rfl, rfl, q1.sq, rfl, _, rfl, b2, _, _, _, rfl, rfl, r1.sq, rfl, ra, rb, _, _, rfl, q2, r2, m1, m2, fun H3 p3 s3 f3 => ?_⟩
    refine ⟨p3, _, 2, rfl, f3, m5, by decide, by decide, fun H4 p4 s4 f4 => ?_⟩
    have s24 := Same.trans s3 s4
    have t24 := TK.of s24
    refine ⟨_, rfl, b1, _, _, _, rfl, rfl, (q1.keep t24).sq, rfl, _, rfl, b2, _, _, _, rfl, rfl, (r1.keep t24).sq, rfl, wa, wb, _, _, rfl, q3.keep t24, r3.keep t24, m3, m4, fun H5 p5 s5 f5 => ?_⟩
    refine ⟨p5, _, 2, rfl, f5, m6, by decide, by decide, fun H6 p6 s6 f6 => ?_⟩
    have s46 := Same.trans s5 s6
    have s26 := Same.trans s24 s46
    refine ⟨_, _, rfl, ?_⟩
    obtain ⟨rs, hrs, srs⟩ := hacc.same stab_cell (Same.trans sT s26)
    refine ⟨_, rfl, .inl ⟨rfl, _, SqL.of hrs⟩, _, rfl, b1, _, _, _, rfl, rfl, (q1.keep (TK.of s26)).sq, rfl, _, rfl, _, rfl, (by show 3 ≤ sizeLine; decide), fun p hp => ?_⟩
    have sp : Same H6 (upd H6 p (.tup [V.int (c.rockCapacity : Int), V.ref p4, V.ref p6])) := Same.new hp
    have ep : upd H6 p (.tup [V.int (c.rockCapacity : Int), V.ref p4, V.ref p6]) p = some (.tup [V.int (c.rockCapacity : Int), V.ref p4, V.ref p6]) := upd_same
    generalize upd H6 p (.tup [V.int (c.rockCapacity : Int), V.ref p4, V.ref p6]) = H7 at sp ep
    have hrs7 := sp _ _ hrs
    have tr : TK H7 (upd H7 r (.lst (rs.map V.ref ++ [V.ref p]))) := TK.lst hrs7
    have t67 := TK.trans (TK.of sp) tr
    have hrl : rs.length ≤ 8 := by
      rw [srs.len, List.length_take]
      omega
    refine ⟨r, _, _, rfl, rfl, hrs7, size8 (by rw [List.length_map]; omega), ?_⟩
    refine ⟨_, _, _, _, rfl, fun b o eo => ?_, rs ++ [p], ?_, ?_⟩
    · rw [upd_ne (ne_of_none eo hr0)]
      exact sp _ _ (s26 _ _ (s2 _ _ eo))
    · rw [List.map_append]
      exact upd_same
    · rw [take_one (List.getElem?_eq_getElem hil), ez]
      exact SeqOf.append (P := CellAt K _) (SeqOf.mono (Q := CellAt K _) srs fun b z qq => CellAt.keep qq t67) (SeqOf.one ⟨p4, p6, .inl (tr _ _ ep), TupAt.keep (TupAt.keep f4 (TK.of s46)) t67, f6.keep t67⟩)
  · rintro σ H' ⟨v3, v4, v5, v6, rfl, s1, hacc⟩
    have e : (Kqk1.mean l m).take l.length = Kqk1.mean l m := by rw [← mean_len hlm, List.take_length]
    rw [e] at hacc
    exact ⟨_, rfl, k H' r s1 hr0 hacc⟩
theorem c_Refusal_init (T : Txt K mg CR CV CS) : CalE P w K mg base 1 "Refusal" CR ["self", "code"] (spRefInit CR) := by
  refine calE_mk T.d_Refusal_init fun f fd F => F.ok sc_Refusal_init (by rintro vs H Q E ⟨a, c, rfl, _⟩; rfl) fun cdv A outer s H vs Q E hr h => ?_
  obtain ⟨a, c, rfl, ha, k⟩ := h
  refine ⟨_, (pss_cons (ps_expr (pe_base (by rfl) T.m_Exception (by decide +kernel) T.v_Exc (pa_cons (pv 0) (pa_cons (pv 1) pa_nil))))
    (pss_one (ps_field (pv 0) (pv 1)))), ?_⟩
  refine ⟨_, rfl, _, rfl, a, CR, _, rfl, (by show 1 ≤ 1000; decide), T.rc, ha, ?_⟩
  exact ⟨_, rfl, _, rfl, a, CR, rfl, T.rc, T.noCode, ha, fun d hd ne => k d hd ne⟩
theorem refused_end {CR : Addr} {E : XK} {H : Hp} {c : Int} {a d : Addr} (k : Ref CR E H c) (ha : H a = none) (hd : upd H a (exo a CR none) d = none) (ne : d ≠ a) :
    E (.ref CR) (some d) (upd (del (upd (upd (upd H a (exo a CR none)) d (exd d [(("code" : Str), .int c)])) a (exo a CR (some d))) a) d (.xd [(("code" : Str), .int c)])) := by
  have hd' : H d = none := by
    rw [upd_ne ne] at hd
    exact hd
  refine k d _ (fun b o e => ?_) upd_same
  have b1 := ne_of_none e ha
  have b2 := ne_of_none e hd'
  rw [upd_ne b2, del_ne b1, upd_ne b1, upd_ne b2, upd_ne b1]
  exact e
/-- the reading of Refusal(e)'s making, from what is to be told -/
theorem refused_mk {CR : Addr} {E : XK} {H : Hp} {c : Int} (k : Ref CR E H c) : ([V.int c] : List V).length ≤ 1000 ∧ ∀ a, H a = none → spRefInit CR (.ref a :: ([V.int c] ++ [])) (upd H a (exo a CR none))
    (fun v H2 => v = .non ∧ ∃ (d : Addr) (fs : List (Str × V)), H2 a = some (exo a CR (some d)) ∧ H2 d = some (exd d fs) ∧ H d = none ∧ E (.ref CR) (some d) (upd (del H2 a) d (.xd fs))) (fun _ _ _ => False) := by
  refine ⟨(by show 1 ≤ 1000; decide), fun a ha => ⟨a, c, rfl, upd_same, fun d hd ne => ⟨rfl, d, _, upd_same, ?_, ?_, refused_end k ha hd ne⟩⟩⟩
  · rw [upd_ne ne, upd_same]
  · rw [upd_ne ne] at hd
    exact hd
theorem c_refuse_if (T : Txt K mg CR CV CS) : Cal P w K mg base (L2.CX P w) 3 "refuse_if" ["is_wrong", "code"] (spRefuse CR) := by
  refine cal_mk T.d_refuse_if fun f fd F => F.okX sc_refuse_if (by rintro vs H Q E ⟨a, c, rfl, _⟩; rfl) fun cdv A outer s H vs Q E hr h => ?_
  have G_Refusal := c_Refusal_init (P := P) (w := w) (base := base) T
  obtain ⟨b, c, rfl, kR, kQ⟩ := h
  refine ⟨_, (pss_one (ps_if (pt_val (pv 0)) (pss_one (ps_raise rfl (takes_of rfl rfl rfl rfl) (pmk_e T.rc G_Refusal hr (by decide) (by rfl) (pa_cons (pv 1) pa_nil)))) pss_nil)), ?_⟩
  refine ⟨_, rfl, b, rfl, ?_⟩
  cases b with
  | true => exact iteT ⟨_, rfl, refused_mk (kR rfl)⟩
  | false => exact iteF (kQ rfl)
theorem c_check_temperature (T : Txt K mg CR CV CS) : Cal P w K mg base (L2.CX P w) 4 "check_temperature" ["temperature"] (spCheckT CR) := by
  refine cal_mk T.d_check_temperature fun f fd F => F.okX sc_check_temperature (by rintro vs H Q E ⟨a, rfl, _⟩; rfl) fun cdv A outer s H vs Q E hr h => ?_
  have G_refuse_if := c_refuse_if (P := P) (w := w) (base := base) T
  obtain ⟨t, rfl, kR, kQ⟩ := h
  refine ⟨_, (pss_one (ps_expr (pe_fx G_refuse_if hr (by decide) rfl (passE rfl rfl rfl rfl) (by exact (pa_cons (pe_cmpR op_gt (pv 0) (pe_gi rfl T.g_MOST_TEMPERATURE) (nomark _)) (pa_cons (pe_gi rfl T.g_OUT_OF_RANGE) pa_nil)))))), ?_⟩
  refine ⟨_, rfl, _, _, rfl, rfl, _, _, rfl, fun hb => kR ?_, fun hb => kQ ?_⟩
  · have := of_decide_eq_true hb
    omega
  · have := of_decide_eq_false hb
    omega
theorem den_cast {n : Nat} : ((10 : Int) ^ 40 < (n : Int)) ↔ 10 ^ 40 < n := by
  have e : ((10 : Int) ^ 40) = ((10 ^ 40 : Nat) : Int) := by rfl
  rw [e]
  exact Int.ofNat_lt
theorem c_check_denominators (T : Txt K mg CR CV CS) : Cal P w K mg base (L2.CX P w) 4 "check_denominators" ["fractions"] (spCheckD K CR) := by
  refine cal_mk T.d_check_denominators fun f fd F => F.okX sc_check_denominators (by rintro vs H Q E ⟨a, qs, rfl, _⟩; rfl) fun cdv A outer s H vs Q E hr h => ?_
  have G_refuse_if := c_refuse_if (P := P) (w := w) (base := base) T
  obtain ⟨a, qs, rfl, hl, kR, kQ⟩ := h
  refine ⟨_, (pss_one (ps_for (passes_of rfl) rfl (pi_list (pv 0)) (pg_name (i := 1) sc_check_denominators.nd rfl (Or.inl rfl))
      (pss_one (ps_expr (pe_fx G_refuse_if hr (by decide) rfl (passE rfl rfl rfl rfl) (by exact (pa_cons (pe_cmpR op_gt (pe_ix (r := rIxT K) ix_tup (pv 1) pe_int (fun _ _ => rfl)) (pe_gi rfl T.g_MOST_DENOMINATOR) (nomark _)) (pa_cons (pe_gi rfl T.g_TOO_LARGE) pa_nil)))))))), ?_⟩
  obtain ⟨as, ha, hn, hq, sq⟩ := hl.sq (K := K)
  refine ⟨_, rfl, a, rfl, ⟨_, hq⟩, for_list (K := K) (a := a) (xs := as.map V.ref) (fun i σ H' => ∃ v, σ = [some (.ref a), v] ∧ H' = H ∧ small (qs.take i) = true) ⟨none, rfl, rfl, rfl⟩ (fun i σ H' _ ⟨_, _, e, _⟩ => e ▸ hq) ?_ ?_⟩
  · rintro i x σ H' hi ⟨v, rfl, rfl, hs⟩
    obtain ⟨b, hb, rfl⟩ := ref_at hi
    obtain ⟨q, hqi, fb⟩ := sq.of_at hb
    refine ⟨_, rfl, b, _, _, _, rfl, rfl, fb.sq, rfl, _, _, rfl, rfl, _, _, rfl, fun hb => kR fun z => ?_, fun hb => ⟨_, rfl, rfl, ?_⟩⟩
    · have h1 := den_cast.mp (of_decide_eq_true hb)
      have h2 := Cf.small_mem z (mem_at hqi)
      omega
    · have h1 := of_decide_eq_false hb
      rw [take_one hqi, Cf.small_app, hs, Bool.true_and]
      show (decide (q.den ≤ 10 ^ 40) && true) = true
      rw [Bool.and_true]
      refine decide_eq_true (Nat.not_lt.mp fun z => h1 (den_cast.mpr z))
  · rintro σ H' ⟨v, rfl, rfl, hs⟩
    rw [List.length_map, hn, List.take_length] at hs
    exact kQ hs
end
end L2.CfX

end
section
/-! How a reservoir lies in the heap; its __init__, its checks, the calls that set. -/
namespace L2.CfX
open PySem PySem.Spec PyProof.Rows L2
open Kqk1 (Cell Reservoir Request Result)
open Cf (Sm Bd CellSm RowSm StepsSm SumSm RowOk advN outs temps caps nowhere small sumR moved Ok Fails Does)
/-! ### the attributes -/
def resF (aR aI aS aP : Addr) (n : Int) (b : Bool) (aV : Addr) : List (Str × V) :=
  [("row", .ref aR), ("injection", .ref aI), ("injected_sum", .ref aS), ("produced_sum", .ref aP), ("produced_count", .int n), ("has_saved", .bl b), ("saved_row", .ref aV)]
theorem lk_here {k : Str} {v : V} {r : List (Str × V)} : List.lookup k ((k, v) :: r) = some v := by
  have e : (k == k) = true := beq_self_eq_true k
  simp only [List.lookup, e]
theorem lk_past {k g : Str} {v : V} {r : List (Str × V)} (h : (k == g) = false) : List.lookup k ((g, v) :: r) = List.lookup k r := by
  simp only [List.lookup, h]
theorem put_here {f : Str} {v x : V} {r : List (Str × V)} : putF f v ((f, x) :: r) = (f, v) :: r := if_pos rfl
theorem put_past {f g : Str} {v x : V} {r : List (Str × V)} (h : ¬ g = f) : putF f v ((g, x) :: r) = (g, x) :: putF f v r := if_neg h
section
variable {aR aI aS aP aV p : Addr} {n m : Int} {b c : Bool}
theorem lk_row : (resF aR aI aS aP n b aV).lookup ("row" : Str) = some (.ref aR) := lk_here
theorem lk_inj : (resF aR aI aS aP n b aV).lookup ("injection" : Str) = some (.ref aI) := (lk_past (by decide +kernel)).trans lk_here
theorem lk_isum : (resF aR aI aS aP n b aV).lookup ("injected_sum" : Str) = some (.ref aS) := (lk_past (by decide +kernel)).trans ((lk_past (by decide +kernel)).trans lk_here)
theorem lk_psum : (resF aR aI aS aP n b aV).lookup ("produced_sum" : Str) = some (.ref aP) := (lk_past (by decide +kernel)).trans ((lk_past (by decide +kernel)).trans ((lk_past (by decide +kernel)).trans lk_here))
theorem lk_cnt : (resF aR aI aS aP n b aV).lookup ("produced_count" : Str) = some (.int n) := (lk_past (by decide +kernel)).trans ((lk_past (by decide +kernel)).trans ((lk_past (by decide +kernel)).trans ((lk_past (by decide +kernel)).trans lk_here)))
theorem lk_has : (resF aR aI aS aP n b aV).lookup ("has_saved" : Str) = some (.bl b) :=
  (lk_past (by decide +kernel)).trans ((lk_past (by decide +kernel)).trans ((lk_past (by decide +kernel)).trans ((lk_past (by decide +kernel)).trans ((lk_past (by decide +kernel)).trans lk_here))))
theorem lk_sav : (resF aR aI aS aP n b aV).lookup ("saved_row" : Str) = some (.ref aV) :=
  (lk_past (by decide +kernel)).trans ((lk_past (by decide +kernel)).trans ((lk_past (by decide +kernel)).trans ((lk_past (by decide +kernel)).trans ((lk_past (by decide +kernel)).trans ((lk_past (by decide +kernel)).trans lk_here)))))
/-- a method's name is none of the attributes -/
theorem lk_meth {k : Str} (h : (!(k == "row") && !(k == "injection") && !(k == "injected_sum") && !(k == "produced_sum") && !(k == "produced_count") && !(k == "has_saved") && !(k == "saved_row")) = true) : (resF aR aI aS aP n b aV).lookup k = none := by
  simp only [Bool.and_eq_true, Bool.not_eq_true'] at h
  obtain ⟨⟨⟨⟨⟨⟨h1, h2⟩, h3⟩, h4⟩, h5⟩, h6⟩, h7⟩ := h
  exact (lk_past h1).trans ((lk_past h2).trans ((lk_past h3).trans ((lk_past h4).trans ((lk_past h5).trans ((lk_past h6).trans ((lk_past h7).trans rfl))))))
theorem put_row : putF "row" (.ref p) (resF aR aI aS aP n b aV) = resF p aI aS aP n b aV := put_here
theorem put_inj : putF "injection" (.ref p) (resF aR aI aS aP n b aV) = resF aR p aS aP n b aV := (put_past (by decide +kernel)).trans (congrArg _ put_here)
theorem put_isum : putF "injected_sum" (.ref p) (resF aR aI aS aP n b aV) = resF aR aI p aP n b aV := (put_past (by decide +kernel)).trans (congrArg _ ((put_past (by decide +kernel)).trans (congrArg _ put_here)))
theorem put_psum : putF "produced_sum" (.ref p) (resF aR aI aS aP n b aV) = resF aR aI aS p n b aV := (put_past (by decide +kernel)).trans (congrArg _ ((put_past (by decide +kernel)).trans (congrArg _ ((put_past (by decide +kernel)).trans (congrArg _ put_here)))))
theorem put_cnt : putF "produced_count" (.int m) (resF aR aI aS aP n b aV) = resF aR aI aS aP m b aV :=
  (put_past (by decide +kernel)).trans (congrArg _ ((put_past (by decide +kernel)).trans (congrArg _ ((put_past (by decide +kernel)).trans (congrArg _ ((put_past (by decide +kernel)).trans (congrArg _ put_here)))))))
theorem put_has : putF "has_saved" (.bl c) (resF aR aI aS aP n b aV) = resF aR aI aS aP n c aV :=
  (put_past (by decide +kernel)).trans (congrArg _ ((put_past (by decide +kernel)).trans (congrArg _ ((put_past (by decide +kernel)).trans (congrArg _ ((put_past (by decide +kernel)).trans (congrArg _ ((put_past (by decide +kernel)).trans (congrArg _ put_here)))))))))
theorem put_sav : putF "saved_row" (.ref p) (resF aR aI aS aP n b aV) = resF aR aI aS aP n b p :=
  (put_past (by decide +kernel)).trans (congrArg _ ((put_past (by decide +kernel)).trans (congrArg _ ((put_past (by decide +kernel)).trans (congrArg _ ((put_past (by decide +kernel)).trans (congrArg _ ((put_past (by decide +kernel)).trans (congrArg _ ((put_past (by decide +kernel)).trans (congrArg _ put_here)))))))))))
theorem put_new : putF "saved_row" (.ref aV) (putF "has_saved" (.bl b) (putF "produced_count" (.int n) (putF "produced_sum" (.ref aP) (putF "injected_sum" (.ref aS) (putF "injection" (.ref aI) (putF "row" (.ref aR) [])))))) = resF aR aI aS aP n b aV := by
  have e1 : putF "injection" (V.ref aI) (putF "row" (.ref aR) ([] : List (Str × V))) = ([("row", .ref aR), ("injection", .ref aI)] : List (Str × V)) := (put_past (by decide +kernel)).trans rfl
  have e2 : putF "injected_sum" (V.ref aS) ([("row", .ref aR), ("injection", .ref aI)] : List (Str × V)) = ([("row", .ref aR), ("injection", .ref aI), ("injected_sum", .ref aS)] : List (Str × V)) := (put_past (by decide +kernel)).trans (congrArg _ ((put_past (by decide +kernel)).trans rfl))
  have e3 : putF "produced_sum" (V.ref aP) ([("row", .ref aR), ("injection", .ref aI), ("injected_sum", .ref aS)] : List (Str × V)) = ([("row", .ref aR), ("injection", .ref aI), ("injected_sum", .ref aS), ("produced_sum", .ref aP)] : List (Str × V)) :=
    (put_past (by decide +kernel)).trans (congrArg _ ((put_past (by decide +kernel)).trans (congrArg _ ((put_past (by decide +kernel)).trans rfl))))
  have e4 : putF "produced_count" (V.int n) ([("row", .ref aR), ("injection", .ref aI), ("injected_sum", .ref aS), ("produced_sum", .ref aP)] : List (Str × V)) = ([("row", .ref aR), ("injection", .ref aI), ("injected_sum", .ref aS), ("produced_sum", .ref aP), ("produced_count", .int n)] : List (Str × V)) :=
    (put_past (by decide +kernel)).trans (congrArg _ ((put_past (by decide +kernel)).trans (congrArg _ ((put_past (by decide +kernel)).trans (congrArg _ ((put_past (by decide +kernel)).trans rfl))))))
  have e5 : putF "has_saved" (V.bl b) ([("row", .ref aR), ("injection", .ref aI), ("injected_sum", .ref aS), ("produced_sum", .ref aP), ("produced_count", .int n)] : List (Str × V)) = ([("row", .ref aR), ("injection", .ref aI), ("injected_sum", .ref aS), ("produced_sum", .ref aP), ("produced_count", .int n), ("has_saved", .bl b)] : List (Str × V)) :=
    (put_past (by decide +kernel)).trans (congrArg _ ((put_past (by decide +kernel)).trans (congrArg _ ((put_past (by decide +kernel)).trans (congrArg _ ((put_past (by decide +kernel)).trans (congrArg _ ((put_past (by decide +kernel)).trans rfl))))))))
  rw [e1, e2, e3, e4, e5]
  exact (put_past (by decide +kernel)).trans (congrArg _ ((put_past (by decide +kernel)).trans (congrArg _ ((put_past (by decide +kernel)).trans (congrArg _ ((put_past (by decide +kernel)).trans (congrArg _ ((put_past (by decide +kernel)).trans (congrArg _ ((put_past (by decide +kernel)).trans rfl))))))))))
theorem len_res : (resF aR aI aS aP n b aV).length < 1000 := by show 7 < 1000; decide
end
/-! ### a reservoir in the heap -/
structure Res (K : PySem.W.Frag) (CV : Addr) (H : Hp) (x dx aR aI aS aP aV : Addr) (r : Reservoir) : Prop where
  o : H x = some (.ins CV dx (resF aR aI aS aP (r.producedCount : Int) r.saved.isSome aV))
  row : RowAt K H aR r.cells
  inj : FrAt K H aI r.injection
  isum : FrAt K H aS r.injectedSum
  psum : FrAt K H aP r.producedSum
  sav : ∀ l, r.saved = some l → RowAt K H aV l
def ResAt (K : PySem.W.Frag) (CV : Addr) (H : Hp) (x : Addr) (r : Reservoir) : Prop := ∃ dx aR aI aS aP aV, Res K CV H x dx aR aI aS aP aV r
/-- all but what stands at x -/
def Others (H H' : Hp) (x : Addr) : Prop := ∀ b o, H b = some o → b ≠ x → H' b = some o
section
variable {K : PySem.W.Frag} {CV : Addr} {H H' H1 H2 : Hp} {x dx dx' p aR aI aS aP aV : Addr} {r r' : Reservoir} {fs : List (Str × V)} {l : List Cell} {u : HO}
theorem Others.of (s : Same H H') : Others H H' x := fun b o e _ => s b o e
theorem Others.trans (a : Others H H1 x) (b : Others H1 H2 x) : Others H H2 x := fun c o e n => b c o (a c o e n) n
theorem Others.put (s : Same H H1) : Others H (upd H1 x u) x := fun b o e n => by
  rw [upd_ne n]
  exact s b o e
theorem Others.free (a : Others H H' x) (hx : H' x = some u) (hp : H' p = none) : H p = none := by
  cases q : H p with
  | none => rfl
  | some o =>
    have n : p ≠ x := fun z => by rw [z, hx] at hp; cases hp
    rw [a p o q n] at hp
    cases hp
theorem row_put (h : RowAt K H p l) (hx : H x = some (.ins CV dx fs)) : RowAt K (upd H x u) p l := by
  refine h.keep stab_cell (fun o e => ?_) (TK.chg fun xs z => by rw [hx] at z; cases z)
  obtain ⟨as, ha, _⟩ := id h
  have n : p ≠ x := fun z => by rw [z, hx] at ha; cases ha
  rw [upd_ne n]
  exact e
theorem fr_put {q : Rat} (h : FrAt K H p q) (hx : H x = some (.ins CV dx fs)) : FrAt K (upd H x u) p q := h.keep (TK.chg fun xs z => by rw [hx] at z; cases z)
theorem Res.keep (R : Res K CV H x dx aR aI aS aP aV r) (s : Same H H') : Res K CV H' x dx aR aI aS aP aV r :=
  ⟨s _ _ R.o, R.row.same stab_cell s, R.inj.keep (TK.of s), R.isum.keep (TK.of s), R.psum.keep (TK.of s), fun l hl => (R.sav l hl).same stab_cell s⟩
theorem ResAt.keep (R : ResAt K CV H x r) (s : Same H H') : ResAt K CV H' x r := by
  obtain ⟨dx, aR, aI, aS, aP, aV, R⟩ := R
  exact ⟨dx, aR, aI, aS, aP, aV, R.keep s⟩
/-- the instance holds new attributes -/
theorem Res.put (hx : H x = some (.ins CV dx' fs)) (row : RowAt K H aR r.cells) (inj : FrAt K H aI r.injection) (isum : FrAt K H aS r.injectedSum) (psum : FrAt K H aP r.producedSum) (sav : ∀ l, r.saved = some l → RowAt K H aV l) :
    Res K CV (upd H x (.ins CV dx (resF aR aI aS aP (r.producedCount : Int) r.saved.isSome aV))) x dx aR aI aS aP aV r :=
  ⟨upd_same, row_put row hx, fr_put inj hx, fr_put isum hx, fr_put psum hx, fun l hl => row_put (sav l hl) hx⟩
/-! ### what a call hands back -/
/-- a new list of whole numbers; the reservoir has changed, nothing else -/
def RetM (K : PySem.W.Frag) (CV : Addr) (H : Hp) (x : Addr) (r' : Reservoir) (ns : List Int) (Q : VK) : Prop := ∀ H' p, H p = none → H' p = some (.lst (ns.map V.int)) → ResAt K CV H' x r' → Others H H' x → Q (.ref p) H'
theorem RetM.end {ns : List Int} {Q : VK} (k : RetM K CV H x r' ns Q) (R : ResAt K CV H1 x r') (ot : Others H H1 x) (hp : H1 p = none) : Q (.ref p) (upd H1 p (.lst (ns.map V.int))) := by
  have s := Same.new (o := .lst (ns.map V.int)) hp
  obtain ⟨dx, aR, aI, aS, aP, aV, R0⟩ := id R
  exact k _ p (ot.free R0.o hp) upd_same (R.keep s) (ot.trans (Others.of s))
/-- what each call is handed and gives -/
structure Core (K : PySem.W.Frag) (CR CV : Addr) (H : Hp) (Q : VK) (E : XK) (x : Addr) (r : Reservoir) (B : Nat) (q : Request) : Prop where
  res : ResAt K CV H x r
  ok : Ok B r
  big : B ≤ 2 ^ 39
  bad : ∀ c, Fails r q c → Ref CR E H c
  good : ∀ r' ns, Does r q r' ns → RetM K CV H x r' ns Q
end
def spOp0 (K : PySem.W.Frag) (CR CV : Addr) (q : Request) : Sp := fun vs H Q E => ∃ x r B, vs = [.ref x] ∧ Core K CR CV H Q E x r B q
def spOp1 (K : PySem.W.Frag) (CR CV : Addr) (q : Nat → Request) : Sp := fun vs H Q E => ∃ x r B, ∃ a : Nat, vs = [.ref x, .int a] ∧ a < 2 ^ 32 ∧ Core K CR CV H Q E x r B (q a)
def spOp2 (K : PySem.W.Frag) (CR CV : Addr) (q : Nat → Nat → Request) : Sp := fun vs H Q E => ∃ x r B, ∃ a b : Nat, vs = [.ref x, .int a, .int b] ∧ a < 2 ^ 32 ∧ b < 2 ^ 32 ∧ Core K CR CV H Q E x r B (q a b)
/-- the same of a call that never refuses -/
def spOp0n (K : PySem.W.Frag) (CR CV : Addr) (q : Request) : Sp := fun vs H Q _ => ∃ E, spOp0 K CR CV q vs H Q E
def spOp1n (K : PySem.W.Frag) (CR CV : Addr) (q : Nat → Request) : Sp := fun vs H Q _ => ∃ E, spOp1 K CR CV q vs H Q E
def spResInit (K : PySem.W.Frag) (CR CV : Addr) : Sp := fun vs H Q E => ∃ x dx, ∃ n : Nat, vs = [.ref x, .int n] ∧ H x = some (.ins CV dx []) ∧ ((n < 1 ∨ 8 < n) → Ref CR E H (-22)) ∧
  (¬ (n < 1 ∨ 8 < n) → ∀ H', ResAt K CV H' x (Cf.fresh n) → Others H H' x → Q .non H')
def spCheckCell (K : PySem.W.Frag) (CR CV : Addr) : Sp := fun vs H Q E => ∃ x r, ∃ i : Nat, vs = [.ref x, .int i] ∧ ResAt K CV H x r ∧ (r.cells.length ≤ i → Ref CR E H (-2)) ∧ (i < r.cells.length → Q .non H)
def spCheckSaved (K : PySem.W.Frag) (CR CV : Addr) : Sp := fun vs H Q E => ∃ x r, vs = [.ref x] ∧ ResAt K CV H x r ∧ (r.saved = none → Ref CR E H (-6)) ∧ (∀ l, r.saved = some l → Q .non H)
section
variable {K : PySem.W.Frag} {mg : Str → Option Value} {CR CV CS : Addr} {H : Hp} {x dx aR aI aS aP aV : Addr} {r : Reservoir} {Q : V → Prop}
/-! ### the attributes read -/
theorem rd_row (T : Txt K mg CR CV CS) (R : Res K CV H x dx aR aI aS aP aV r) (k : Q (.ref aR)) : ∃ a C dx fs v, V.ref x = .ref a ∧ H a = some (.ins C dx fs) ∧ Cls K C ∧ NoAttr K C "row" ∧ fs.lookup ("row" : Str) = some v ∧ Q v := ⟨x, CV, dx, _, _, rfl, R.o, T.clR, T.a_row, lk_row, k⟩
theorem rd_inj (T : Txt K mg CR CV CS) (R : Res K CV H x dx aR aI aS aP aV r) (k : Q (.ref aI)) : ∃ a C dx fs v, V.ref x = .ref a ∧ H a = some (.ins C dx fs) ∧ Cls K C ∧ NoAttr K C "injection" ∧ fs.lookup ("injection" : Str) = some v ∧ Q v := ⟨x, CV, dx, _, _, rfl, R.o, T.clR, T.a_injection, lk_inj, k⟩
theorem rd_isum (T : Txt K mg CR CV CS) (R : Res K CV H x dx aR aI aS aP aV r) (k : Q (.ref aS)) : ∃ a C dx fs v, V.ref x = .ref a ∧ H a = some (.ins C dx fs) ∧ Cls K C ∧ NoAttr K C "injected_sum" ∧ fs.lookup ("injected_sum" : Str) = some v ∧ Q v := ⟨x, CV, dx, _, _, rfl, R.o, T.clR, T.a_injected_sum, lk_isum, k⟩
theorem rd_psum (T : Txt K mg CR CV CS) (R : Res K CV H x dx aR aI aS aP aV r) (k : Q (.ref aP)) : ∃ a C dx fs v, V.ref x = .ref a ∧ H a = some (.ins C dx fs) ∧ Cls K C ∧ NoAttr K C "produced_sum" ∧ fs.lookup ("produced_sum" : Str) = some v ∧ Q v := ⟨x, CV, dx, _, _, rfl, R.o, T.clR, T.a_produced_sum, lk_psum, k⟩
theorem rd_cnt (T : Txt K mg CR CV CS) (R : Res K CV H x dx aR aI aS aP aV r) (k : Q (.int (r.producedCount : Int))) : ∃ a C dx fs v, V.ref x = .ref a ∧ H a = some (.ins C dx fs) ∧ Cls K C ∧ NoAttr K C "produced_count" ∧ fs.lookup ("produced_count" : Str) = some v ∧ Q v := ⟨x, CV, dx, _, _, rfl, R.o, T.clR, T.a_produced_count, lk_cnt, k⟩
theorem rd_has (T : Txt K mg CR CV CS) (R : Res K CV H x dx aR aI aS aP aV r) (k : Q (.bl r.saved.isSome)) : ∃ a C dx fs v, V.ref x = .ref a ∧ H a = some (.ins C dx fs) ∧ Cls K C ∧ NoAttr K C "has_saved" ∧ fs.lookup ("has_saved" : Str) = some v ∧ Q v := ⟨x, CV, dx, _, _, rfl, R.o, T.clR, T.a_has_saved, lk_has, k⟩
theorem rd_sav (T : Txt K mg CR CV CS) (R : Res K CV H x dx aR aI aS aP aV r) (k : Q (.ref aV)) : ∃ a C dx fs v, V.ref x = .ref a ∧ H a = some (.ins C dx fs) ∧ Cls K C ∧ NoAttr K C "saved_row" ∧ fs.lookup ("saved_row" : Str) = some v ∧ Q v := ⟨x, CV, dx, _, _, rfl, R.o, T.clR, T.a_saved_row, lk_sav, k⟩
end
theorem flat_one {α : Type} (v : α) : ∀ n : Nat, (List.replicate n [v]).flatten = List.replicate n v
  | 0 => rfl
  | n + 1 => by
    rw [List.replicate_succ, List.flatten_cons, flat_one v n, List.replicate_succ]
    rfl
theorem rep_at {α : Type} {n i : Nat} {v z : α} (h : (List.replicate n v)[i]? = some z) : z = v := (List.mem_replicate.mp (List.mem_of_getElem? h)).2
section
variable {P : Program} {w : World} {K : PySem.W.Frag} {mg : Str → Option Value} {base : Heap} {CR CV CS : Addr}
theorem c_Reservoir_init (T : Txt K mg CR CV CS) : CalC P w K mg base (L2.CX P w) 4 "Reservoir" CV ["self", "cell_count"] (spResInit K CR CV) := by
  refine calC_mk T.d_Reservoir_init fun f fd F => F.okX sc_Reservoir_init (by rintro vs H Q E ⟨a, b, c, rfl, _⟩; rfl) fun cdv A outer s H vs Q E hr h => ?_
  have G_refuse_if := c_refuse_if (P := P) (w := w) (base := base) T
  have G_whole := c_whole (P := P) (w := w) (base := base) T
  obtain ⟨aZ, gZ, kZ⟩ := T.g_ZERO
  obtain ⟨x, dx, n, rfl, hx, kR, kQ⟩ := h
  refine ⟨_, (pss_cons (ps_expr (pe_fx G_refuse_if hr (by decide) rfl (passE rfl rfl rfl rfl) (by exact (pa_cons (pe_or (pe_cmpR op_lt (pv 1) pe_int (nomark _)) (pe_one (pe_cmpR op_gt (pv 1) (pe_gi rfl T.g_MOST_CELLS) (nomark _)))) (pa_cons (pe_gi rfl T.g_OUT_OF_RANGE) pa_nil)))))
    (pss_cons (ps_fld (pv 0) (pe_op op_rep (pe_lst (pa_cons (pe_tup (pa_cons pe_int (pa_cons (pe_fn G_whole hr (by decide) rfl (by exact (pa_cons pe_int pa_nil))) (pa_cons (pe_fn G_whole hr (by decide) rfl (by exact (pa_cons pe_int pa_nil))) pa_nil)))) pa_nil)) (pv 1)) rfl)
    (pss_cons (ps_fld (pv 0) (pe_fn G_whole hr (by decide) rfl (by exact (pa_cons pe_int pa_nil))) rfl)
    (pss_cons (ps_fld (pv 0) (pe_glob (v := .ref aZ) rfl gZ rfl) rfl)
    (pss_cons (ps_fld (pv 0) (pe_glob (v := .ref aZ) rfl gZ rfl) rfl)
    (pss_cons (ps_fld (pv 0) pe_int rfl)
    (pss_cons (ps_fld (pv 0) pe_bl rfl)
    (pss_one (ps_fld (pv 0) (pe_lst pa_nil) rfl))))))))), ?_⟩
  by_cases hn : n < 1 ∨ 8 < n
  · -- refused
    by_cases h1 : n < 1
    · refine ⟨_, rfl, _, _, rfl, rfl, true, ?_, ?_⟩
      · exact congrArg V.bl (decide_eq_true (by omega))
      · exact iteT ⟨_, _, rfl, fun _ => kR hn, fun z => Bool.noConfusion z⟩
    · refine ⟨_, rfl, _, _, rfl, rfl, false, ?_, ?_⟩
      · exact congrArg V.bl (decide_eq_false (by omega))
      · refine iteF ⟨_, rfl, _, _, rfl, rfl, _, _, rfl, fun _ => kR hn, fun z => ?_⟩
        have := of_decide_eq_false z
        omega
  · refine ⟨_, rfl, _, _, rfl, rfl, false, ?_, ?_⟩
    · exact congrArg V.bl (decide_eq_false (by omega))
    refine iteF ⟨_, rfl, _, _, rfl, rfl, _, _, rfl, fun z => ?_, fun _ => ?_⟩
    · have := of_decide_eq_true z
      omega
    have kq := kQ hn
    -- self.row
    refine ⟨100, rfl, fun H1 p1 s1 f1 => ⟨100, rfl, fun H2 p2 s2 f2 => ?_⟩⟩
    refine ⟨(by show 3 ≤ sizeLine; decide), fun t ht => ⟨(by show 1 ≤ sizeLine; decide), fun l hl => ?_⟩⟩
    have s3 : Same H2 (upd H2 t (.tup [.int 1, .ref p1, .ref p2])) := Same.new ht
    have e3 : upd H2 t (.tup [.int 1, .ref p1, .ref p2]) t = some (.tup [.int 1, .ref p1, .ref p2]) := upd_same
    generalize upd H2 t (.tup [.int 1, .ref p1, .ref p2]) = H3 at s3 e3 hl
    have s4 : Same H3 (upd H3 l (.lst [.ref t])) := Same.new hl
    have e4 : upd H3 l (.lst [.ref t]) l = some (.lst [.ref t]) := upd_same
    generalize upd H3 l (.lst [.ref t]) = H4 at s4 e4
    refine ⟨_, rfl, l, _, _, rfl, rfl, e4, by omega, by omega, size8' (by show 1 * (n : Int).toNat ≤ 1000; omega), fun p hp => ?_⟩
    have er : (List.replicate (n : Int).toNat [V.ref t]).flatten = (List.replicate n t).map V.ref := by
      rw [flat_one, Int.toNat_natCast, List.map_replicate]
    rw [er]
    have s5 : Same H4 (upd H4 p (.lst ((List.replicate n t).map V.ref))) := Same.new hp
    have e5 : upd H4 p (.lst ((List.replicate n t).map V.ref)) p = some (.lst ((List.replicate n t).map V.ref)) := upd_same
    generalize upd H4 p (.lst ((List.replicate n t).map V.ref)) = H5 at s5 e5
    have s35 := Same.trans s4 s5
    have s25 := Same.trans s3 s35
    have s15 := Same.trans s2 s25
    have s05 := Same.trans s1 s15
    have hrow : RowAt K H5 p (Cf.fresh n).cells := by
      refine ⟨_, e5, ?_, fun i a z ha hz => ?_⟩
      · rw [List.length_replicate]
        exact (List.length_replicate ..).symm
      · have h1 := rep_at ha
        have h2 := rep_at (show (List.replicate n (⟨1, 100, 100⟩ : Cell))[i]? = some z from hz)
        subst h1 h2
        exact ⟨p1, p2, .inl (s35 _ _ e3), TupAt.keep f1 (TK.of s15), TupAt.keep f2 (TK.of s25)⟩
    have hx5 := s05 _ _ hx
    refine ⟨_, rfl, x, CV, dx, _, rfl, hx5, T.clR, T.a_row, (by show 0 < 1000; decide), ?_⟩
    -- self.injection
    have tkx : TK H5 (upd H5 x (.ins CV dx (putF "row" (.ref p) []))) := TK.chg fun xs z => by rw [hx5] at z; cases z
    refine ⟨20, rfl, fun H6 p6 s6 f6 => ?_⟩
    have hx6 := s6 _ _ (upd_same (H := H5) (a := x) (o := .ins CV dx (putF "row" (.ref p) [])))
    have hrow6 : RowAt K H6 p (Cf.fresh n).cells := (row_put hrow hx5).same stab_cell s6
    have ot6 : Others H H6 x := (Others.put s05).trans (Others.of s6)
    refine ⟨_, rfl, x, CV, dx, _, rfl, hx6, T.clR, T.a_injection, (by show 1 < 1000; decide), ?_⟩
    refine ⟨_, rfl, x, CV, dx, _, rfl, upd_same, T.clR, T.a_injected_sum, (by show 2 < 1000; decide), ?_⟩
    refine ⟨_, rfl, x, CV, dx, _, rfl, upd_same, T.clR, T.a_produced_sum, (by show 3 < 1000; decide), ?_⟩
    refine ⟨_, rfl, x, CV, dx, _, rfl, upd_same, T.clR, T.a_produced_count, (by show 4 < 1000; decide), ?_⟩
    refine ⟨_, rfl, x, CV, dx, _, rfl, upd_same, T.clR, T.a_has_saved, (by show 5 < 1000; decide), ?_⟩
    refine ⟨(by show 0 ≤ sizeLine; decide), fun v hv => ?_⟩
    rw [upd_upd, upd_upd, upd_upd, upd_upd] at hv ⊢
    have vx : x ≠ v := fun z => by rw [← z, upd_same] at hv; cases hv
    have hv6 : H6 v = none := by
      rw [upd_ne (Ne.symm vx)] at hv
      exact hv
    refine ⟨_, rfl, x, CV, dx, _, rfl, (by rw [upd_ne vx]; exact upd_same), T.clR, T.a_saved_row, (by show 6 < 1000; decide), ?_⟩
    rw [put_new]
    refine kq _ ⟨dx, p, p6, aZ, aZ, v, Res.put (r := Cf.fresh n) (fs := putF "has_saved" (V.bl false) (putF "produced_count" (V.int 0) (putF "produced_sum" (V.ref aZ) (putF "injected_sum" (V.ref aZ) (putF "injection" (V.ref p6) (putF "row" (V.ref p) []))))))
      (dx' := dx) (by rw [upd_ne vx]; exact upd_same) ?_ ?_ ?_ ?_ ?_⟩ ?_
    · refine (row_put hrow6 hx6).keep stab_cell (fun o e => ?_) (TK.new hv)
      rw [upd_ne (ne_of_none e hv)]
      exact e
    · exact (fr_put (q := 20) f6 hx6).keep (TK.new hv)
    · exact .inr kZ
    · exact .inr kZ
    · intro l hl
      cases hl
    · intro b o e nb
      rw [upd_ne nb, upd_ne (ne_of_none (ot6 b o e nb) hv6), upd_ne nb]
      exact ot6 b o e nb
theorem c_check_cell (T : Txt K mg CR CV CS) : CalM P w K mg base (L2.CX P w) 4 CV "check_cell" ["self", "cell"] (spCheckCell K CR CV) := by
  refine calM_mk T.d_check_cell fun f fd F => F.okX sc_check_cell (by rintro vs H Q E ⟨a, b, c, rfl, _⟩; rfl) fun cdv A outer s H vs Q E hr h => ?_
  have G_refuse_if := c_refuse_if (P := P) (w := w) (base := base) T
  obtain ⟨x, r, i, rfl, ⟨dx, aR, aI, aS, aP, aV, R⟩, kR, kQ⟩ := h
  refine ⟨_, (pss_one (ps_expr (pe_fx G_refuse_if hr (by decide) rfl (passE rfl rfl rfl rfl) (by exact (pa_cons (pe_cmpR op_ge (pv 1) (pe_callB call_len_seq (by rfl) T.m_len PySem.boot_len (pa_cons (pe_fld (pv 0) rfl) pa_nil)) (nomark _)) (pa_cons (pe_gi rfl T.g_NO_CELL) pa_nil)))))), ?_⟩
  obtain ⟨as, ha, hn, hq, sq⟩ := R.row.sq (K := K)
  refine ⟨_, rfl, _, rfl, rd_row T R ⟨aR, _, rfl, .inl hq, _, _, rfl, rfl, _, _, rfl, fun z => kR ?_, fun z => kQ ?_⟩⟩
  · have := of_decide_eq_true z
    rw [List.length_map, hn] at this
    omega
  · have := of_decide_eq_false z
    rw [List.length_map, hn] at this
    omega
theorem c_check_saved (T : Txt K mg CR CV CS) : CalM P w K mg base (L2.CX P w) 4 CV "check_saved" ["self"] (spCheckSaved K CR CV) := by
  refine calM_mk T.d_check_saved fun f fd F => F.okX sc_check_saved (by rintro vs H Q E ⟨a, b, rfl, _⟩; rfl) fun cdv A outer s H vs Q E hr h => ?_
  have G_refuse_if := c_refuse_if (P := P) (w := w) (base := base) T
  obtain ⟨x, r, rfl, ⟨dx, aR, aI, aS, aP, aV, R⟩, kR, kQ⟩ := h
  refine ⟨_, (pss_one (ps_expr (pe_fx G_refuse_if hr (by decide) rfl (passE rfl rfl rfl rfl) (by exact (pa_cons (pe_not (pe_fld (pv 0) rfl)) (pa_cons (pe_gi rfl T.g_NO_PROFILE) pa_nil)))))), ?_⟩
  refine ⟨_, rfl, rd_has T R ⟨_, rfl, _, _, rfl, fun z => kR ?_, fun z => ?_⟩⟩
  · cases e : r.saved with
    | none => rfl
    | some l =>
      rw [e] at z
      cases z
  · cases e : r.saved with
    | none =>
      rw [e] at z
      cases z
    | some l => exact kQ l e
end
end L2.CfX

end
section
/-! The reservoir's calls that set and step. -/
namespace L2.CfX
open PySem PySem.Spec PyProof.Rows L2
open Kqk1 (Cell Reservoir Request Result)
open Cf (Sm Bd CellSm RowSm StepsSm SumSm RowOk advN outs temps caps nowhere small sumR moved Ok Fails Does gained)
section
variable {K : PySem.W.Frag} {CV : Addr} {H : Hp} {x dx p aR aI aS aP aV : Addr} {r : Reservoir} {l : List Cell} {q : Rat}
theorem Res.newRow (R : Res K CV H x dx aR aI aS aP aV r) (hp : RowAt K H p l) : Res K CV (upd H x (.ins CV dx (resF p aI aS aP (r.producedCount : Int) r.saved.isSome aV))) x dx p aI aS aP aV { r with cells := l } :=
  Res.put (r := { r with cells := l }) R.o hp R.inj R.isum R.psum R.sav
theorem Res.newInj (R : Res K CV H x dx aR aI aS aP aV r) (hp : FrAt K H p q) : Res K CV (upd H x (.ins CV dx (resF aR p aS aP (r.producedCount : Int) r.saved.isSome aV))) x dx aR p aS aP aV { r with injection := q } :=
  Res.put (r := { r with injection := q }) R.o R.row hp R.isum R.psum R.sav
theorem row_len {as : List Addr} (hn : as.length = l.length) : ((as.map V.ref).length : Int) = (l.length : Int) := by rw [List.length_map, hn]
end
/-- what run_steps is handed and gives -/
def spRun (K : PySem.W.Frag) (CR CV : Addr) : Sp := fun vs H Q E => ∃ x r B, ∃ k : Nat, vs = [.ref x, .int k] ∧ ResAt K CV H x r ∧ Ok B r ∧ B ≤ 2 ^ 39 ∧ k ≤ 20 ∧ (¬ Kqk1.denominatorsAreSmall (Kqk1.advanceMany k r) = true → Ref CR E H (-75)) ∧
  (Kqk1.denominatorsAreSmall (Kqk1.advanceMany k r) = true → ∀ H' p, FrAt K H' p (gained r k) → ResAt K CV H' x (Kqk1.advanceMany k r) → Others H H' x → Q (.ref p) H')
def spNext (K : PySem.W.Frag) (CR CV : Addr) : Sp := fun vs H Q E => ∃ x r B, ∃ k : Nat, vs = [.ref x, .int k] ∧ ResAt K CV H x r ∧ Ok B r ∧ k ≤ 20 ∧ ∀ H' p, Same H H' → FrsAt K H' p (outs r.injection k r.cells) → Q (.ref p) H'
section
variable {P : Program} {w : World} {K : PySem.W.Frag} {mg : Str → Option Value} {base : Heap} {CR CV CS : Addr}
theorem c_set_rock_capacity (T : Txt K mg CR CV CS) : CalM P w K mg base (L2.CX P w) 5 CV "set_rock_capacity" ["self", "cell", "rock_capacity"] (spOp2 K CR CV Request.setRockCapacity) := by
  refine calM_mk T.d_set_rock_capacity fun f fd F => F.okX sc_set_rock_capacity (by rintro vs H Q E ⟨a, b, c, d, e, rfl, _⟩; rfl) fun cdv A outer s H vs Q E hr h => ?_
  have G_check_cell := c_check_cell (P := P) (w := w) (base := base) T
  have G_refuse_if := c_refuse_if (P := P) (w := w) (base := base) T
  have G_with_cell := c_with_cell (P := P) (w := w) (base := base) T
  obtain ⟨x, r, B, i, k, rfl, hi32, hk32, c⟩ := h
  obtain ⟨dx, aR, aI, aS, aP, aV, R⟩ := id c.res
  refine ⟨_, (pss_cons (ps_expr (pe_mt T.clR G_check_cell hr (by decide) (passE rfl rfl rfl rfl) (pv 0) (by exact (pa_cons (pv 1) pa_nil))))
    (pss_cons (ps_expr (pe_fx G_refuse_if hr (by decide) rfl (passE rfl rfl rfl rfl) (by exact (pa_cons (pe_or (pe_cmpR op_lt (pv 2) pe_int (nomark _)) (pe_one (pe_cmpR op_gt (pv 2) (pe_gi rfl T.g_MOST_CAPACITY) (nomark _)))) (pa_cons (pe_gi rfl T.g_OUT_OF_RANGE) pa_nil)))))
    (pss_cons (ps_asg (pe_ix (r := rIxL K) ix_list (pe_fld (pv 0) rfl) (pv 1) (fun _ _ => rfl)) (pg_tup rfl (pgs_cons (pg_name (i := 3) sc_set_rock_capacity.nd rfl (Or.inl rfl)) (pgs_cons (pg_name (i := 4) sc_set_rock_capacity.nd rfl (Or.inl rfl)) (pgs_cons (pg_name (i := 5) sc_set_rock_capacity.nd rfl (Or.inl rfl)) pgs_nil)))))
    (pss_cons (ps_fld (pv 0) (pe_fn G_with_cell hr (by decide) rfl (by exact (pa_cons (pe_fld (pv 0) rfl) (pa_cons (pv 1) (pa_cons (pe_tup (pa_cons (pv 2) (pa_cons (pv 4) (pa_cons (pv 5) pa_nil)))) pa_nil))))) rfl)
    (pss_one (ps_ret (pe_lst (pa_cons (pv 3) pa_nil)))))))), ?_⟩
  refine ⟨_, rfl, x, dx, _, rfl, R.o, lk_meth (by decide +kernel), _, rfl, x, r, i, rfl, c.res, fun hi => c.bad _ (Cf.f_cap1 hi), fun hi => ?_⟩
  by_cases hk : k < 1 ∨ 20 < k
  · by_cases h1 : k < 1
    · refine ⟨_, rfl, _, _, rfl, rfl, true, congrArg V.bl (decide_eq_true (by omega)), iteT ⟨_, _, rfl, fun _ => c.bad _ (Cf.f_cap2 hi hk), fun z => Bool.noConfusion z⟩⟩
    · refine ⟨_, rfl, _, _, rfl, rfl, false, congrArg V.bl (decide_eq_false (by omega)), iteF ⟨_, rfl, _, _, rfl, rfl, _, _, rfl, fun _ => c.bad _ (Cf.f_cap2 hi hk), fun z => ?_⟩⟩
      have := of_decide_eq_false z
      omega
  refine ⟨_, rfl, _, _, rfl, rfl, false, congrArg V.bl (decide_eq_false (by omega)), iteF ⟨_, rfl, _, _, rfl, rfl, _, _, rfl, fun z => ?_, fun _ => ?_⟩⟩
  · have := of_decide_eq_true z
    omega
  obtain ⟨as, ha, hn, hq, sq⟩ := R.row.sq (K := K)
  have hci : r.cells[i]? = some r.cells[i] := List.getElem?_eq_getElem hi
  generalize r.cells[i] = cc at hci
  obtain ⟨b, hb, ra, wa, q1, q2, q3⟩ := sq.at hci
  refine ⟨_, rfl, rd_row T R ⟨_, rfl, aR, _, _, _, rfl, rfl, hq, atI_nat (at_ref hb), b, _, rfl, q1.sq, rfl, _, _, rfl, _, _, rfl, _, _, rfl, rfl, ?_⟩⟩
  refine ⟨_, rfl, rd_row T R ⟨_, rfl, _, rfl, _, rfl, _, rfl, (by show 3 ≤ sizeLine; decide), fun t ht => ?_⟩⟩
  have s1 : Same H (upd H t (.tup [.int (k : Int), .ref ra, .ref wa])) := Same.new ht
  have e1 : upd H t (.tup [.int (k : Int), .ref ra, .ref wa]) t = some (.tup [.int (k : Int), .ref ra, .ref wa]) := upd_same
  generalize upd H t (.tup [.int (k : Int), .ref ra, .ref wa]) = H1 at s1 e1
  refine ⟨aR, t, r.cells, ⟨k, cc.rock, cc.water⟩, i, rfl, R.row.same stab_cell s1, c.ok.row.most, hi, ⟨ra, wa, .inl e1, q2.keep (TK.of s1), q3.keep (TK.of s1)⟩, fun H2 p s2 f2 hp => ?_⟩
  have s02 := Same.trans s1 s2
  have R2 := R.keep s02
  refine ⟨_, rfl, x, CV, dx, _, rfl, R2.o, T.clR, T.a_row, len_res, ?_⟩
  rw [put_row]
  exact ⟨_, rfl, (by show 1 ≤ sizeLine; decide), fun p3 hp3 => (c.good _ _ (Cf.d_cap hci hk)).end ⟨_, _, _, _, _, _, R2.newRow hp⟩ (Others.put s02) hp3⟩
theorem c_set_temperature (T : Txt K mg CR CV CS) : CalM P w K mg base (L2.CX P w) 5 CV "set_temperature" ["self", "cell", "temperature"] (spOp2 K CR CV Request.setTemperature) := by
  refine calM_mk T.d_set_temperature fun f fd F => F.okX sc_set_temperature (by rintro vs H Q E ⟨a, b, c, d, e, rfl, _⟩; rfl) fun cdv A outer s H vs Q E hr h => ?_
  have G_check_cell := c_check_cell (P := P) (w := w) (base := base) T
  have G_check_temperature := c_check_temperature (P := P) (w := w) (base := base) T
  have G_with_cell := c_with_cell (P := P) (w := w) (base := base) T
  have G_with_temperature := c_with_temperature (P := P) (w := w) (base := base) T
  have G_whole := c_whole (P := P) (w := w) (base := base) T
  obtain ⟨x, r, B, i, t, rfl, hi32, ht32, c⟩ := h
  obtain ⟨dx, aR, aI, aS, aP, aV, R⟩ := id c.res
  refine ⟨_, (pss_cons (ps_expr (pe_mt T.clR G_check_cell hr (by decide) (passE rfl rfl rfl rfl) (pv 0) (by exact (pa_cons (pv 1) pa_nil))))
    (pss_cons (ps_expr (pe_fx G_check_temperature hr (by decide) rfl (passE rfl rfl rfl rfl) (by exact (pa_cons (pv 2) pa_nil))))
    (pss_cons (ps_fld (pv 0) (pe_fn G_with_cell hr (by decide) rfl (by exact (pa_cons (pe_fld (pv 0) rfl) (pa_cons (pv 1) (pa_cons (pe_fn G_with_temperature hr (by decide) rfl (by exact (pa_cons (pe_ix (r := rIxL K) ix_list (pe_fld (pv 0) rfl) (pv 1) (fun _ _ => rfl)) (pa_cons (pe_fn G_whole hr (by decide) rfl (by exact (pa_cons (pv 2) pa_nil))) pa_nil)))) pa_nil))))) rfl)
    (pss_one (ps_ret (pe_lst (pa_cons pe_int pa_nil))))))), ?_⟩
  refine ⟨_, rfl, x, dx, _, rfl, R.o, lk_meth (by decide +kernel), _, rfl, x, r, i, rfl, c.res, fun hi => c.bad _ (Cf.f_temp1 hi), fun hi => ?_⟩
  refine ⟨_, rfl, t, rfl, fun ht => c.bad _ (Cf.f_temp2 hi ht), fun ht => ?_⟩
  obtain ⟨as, ha, hn, hq, sq⟩ := R.row.sq (K := K)
  have hci : r.cells[i]? = some r.cells[i] := List.getElem?_eq_getElem hi
  generalize r.cells[i] = cc at hci
  obtain ⟨b, hb, qc⟩ := sq.at hci
  refine ⟨_, rfl, rd_row T R ⟨_, rfl, _, rfl, rd_row T R ⟨_, rfl, aR, _, _, _, rfl, rfl, hq, atI_nat (at_ref hb), _, rfl, (t : Int), rfl, fun H1 p1 s1 f1 => ?_⟩⟩⟩
  refine ⟨b, p1, cc, ((t : Int) : Rat), rfl, qc.keep (TK.of s1), f1, fun H2 p2 s2 q2 => ?_⟩
  have s02 := Same.trans s1 s2
  refine ⟨aR, p2, r.cells, _, i, rfl, R.row.same stab_cell s02, c.ok.row.most, hi, q2, fun H3 p3 s3 f3 hp3 => ?_⟩
  have s03 := Same.trans s02 s3
  have R3 := R.keep s03
  refine ⟨_, rfl, x, CV, dx, _, rfl, R3.o, T.clR, T.a_row, len_res, ?_⟩
  rw [put_row]
  exact ⟨(by show 1 ≤ sizeLine; decide), fun p4 hp4 => (c.good _ _ (Cf.d_temp hci ht)).end ⟨_, _, _, _, _, _, R3.newRow hp3⟩ (Others.put s03) hp4⟩
theorem c_set_all_temperatures (T : Txt K mg CR CV CS) : CalM P w K mg base (L2.CX P w) 5 CV "set_all_temperatures" ["self", "temperature"] (spOp1 K CR CV Request.setAllTemperatures) := by
  refine calM_mk T.d_set_all_temperatures fun f fd F => F.okX sc_set_all_temperatures (by rintro vs H Q E ⟨a, b, c, d, rfl, _⟩; rfl) fun cdv A outer s H vs Q E hr h => ?_
  have G_check_temperature := c_check_temperature (P := P) (w := w) (base := base) T
  have G_with_temperature := c_with_temperature (P := P) (w := w) (base := base) T
  have G_whole := c_whole (P := P) (w := w) (base := base) T
  obtain ⟨x, r, B, t, rfl, ht32, c⟩ := h
  obtain ⟨dx, aR, aI, aS, aP, aV, R⟩ := id c.res
  refine ⟨_, (pss_cons (ps_expr (pe_fx G_check_temperature hr (by decide) rfl (passE rfl rfl rfl rfl) (by exact (pa_cons (pv 1) pa_nil))))
    (pss_cons (ps_fld (pv 0) (pe_lc (own := [("cell", 2)]) (g := gName 2) (tt := tYes) rfl sc_set_all_temperatures.nd (pi_list (pe_fld (pv 0) rfl)) (blkOk_by (own := [("cell", 2)]) (N := ["self", "temperature", "cell"]) (sc := defScope s_set_all_temperatures) (by decide +kernel)) (fun _ _ _ _ _ => (pg_name (i := 2) sc_set_all_temperatures.nd rfl (Or.inl rfl))) (fun _ _ _ _ _ => pts_nil) (fun _ _ _ _ _ => (pe_fn G_with_temperature hr (by decide) rfl (by exact (pa_cons (pv 2) (pa_cons (pe_fn G_whole hr (by decide) rfl (by exact (pa_cons (pv 1) pa_nil))) pa_nil)))))) rfl)
    (pss_one (ps_ret (pe_lst (pa_cons (pe_callB call_len_seq (by rfl) T.m_len PySem.boot_len (pa_cons (pe_fld (pv 0) rfl) pa_nil)) pa_nil)))))), ?_⟩
  refine ⟨_, rfl, t, rfl, fun ht => c.bad _ (Cf.f_all ht), fun ht => ?_⟩
  obtain ⟨as, ha, hn, hq, sq⟩ := R.row.sq (K := K)
  have h8 := c.ok.row.most
  refine ⟨_, rfl, rd_row T R ⟨aR, rfl, ⟨_, hq⟩, fun D hD => lc_refs (stab_cell (K := K)) (walk_list (K := K) (a := aR) (xs := as.map V.ref)) (r.cells.map fun c => (⟨c.rockCapacity, (t : Rat), (t : Rat)⟩ : Cell)) (by rw [List.length_map, List.length_map, hn]) hD (size8 (by rw [List.length_map, hn]; omega)) (fun H2 s2 => s2.seq hq) same_at ?_ ?_⟩⟩
  · rintro i y H1 H2 z hi hz s1 ⟨rfl, hx⟩ Q4 k4
    obtain ⟨b, hb, rfl⟩ := ref_at hx
    obtain ⟨cc, hc, rfl⟩ := map_at hz
    exact ⟨rfl, _, rfl, _, rfl, (t : Int), rfl, fun H3 p3 s3 f3 => ⟨b, p3, cc, ((t : Int) : Rat), rfl, (sq.get i b cc hb hc).keep (TK.of (Same.trans s1 s3)), f3, fun H4 p4 s4 q4 => k4 p4 H4 (Same.trans s3 s4) q4⟩⟩
  intro H2 s2 hrow
  have R2 := R.keep s2
  refine ⟨_, rfl, x, CV, dx, _, rfl, R2.o, T.clR, T.a_row, len_res, ?_⟩
  rw [put_row]
  have R3 := R2.newRow hrow
  obtain ⟨bs, hb, hnb, hqb, sqb⟩ := R3.row.sq (K := K)
  rw [List.length_map] at hnb
  refine ⟨_, rfl, rd_row T R3 ⟨D, _, rfl, .inl hqb, ?_⟩⟩
  rw [row_len (l := r.cells) hnb]
  exact ⟨(by show 1 ≤ sizeLine; decide), fun p4 hp4 => (c.good _ _ (Cf.d_all ht)).end ⟨_, _, _, _, _, _, R3⟩ (Others.put s2) hp4⟩
/-- [..] + list(fraction) -/
theorem cat_fr {H : Hp} {p1 a : Addr} {xs : List V} {q : Rat} {Q : V → Hp → Prop} (h1 : H p1 = some (.lst xs)) (hx : xs.length ≤ 100) (fa : FrAt K H a q) (k : ∀ H2 p, Same H H2 → H2 p = none → Q (.ref p) (upd H2 p (.lst (xs ++ frV q)))) :
    ∃ p ys, ([V.ref a] : List V) = [.ref p] ∧ (SqL K H p ys ∨ SqT K H p ys) ∧ ∀ l, H l = none → ∃ l' b xs' zs, V.ref p1 = .ref l' ∧ V.ref l = .ref b ∧ (upd H l (.lst ys)) l' = some (.lst xs') ∧ (upd H l (.lst ys)) b = some (.lst zs) ∧ xs'.length + zs.length ≤ sizeLine ∧
      ∀ p, (upd H l (.lst ys)) p = none → Q (.ref p) (upd (upd H l (.lst ys)) p (.lst (xs' ++ zs))) := by
  refine ⟨a, frV q, rfl, .inr fa.sq, fun l hl => ⟨p1, l, xs, frV q, rfl, rfl, Same.new hl _ _ h1, upd_same, size8' (by show xs.length + 2 ≤ 1000; omega), fun p hp => k _ p (Same.new hl) hp⟩⟩
theorem c_set_injection_temperature (T : Txt K mg CR CV CS) : CalM P w K mg base (L2.CX P w) 5 CV "set_injection_temperature" ["self", "temperature"] (spOp1 K CR CV Request.setInjectionTemperature) := by
  refine calM_mk T.d_set_injection_temperature fun f fd F => F.okX sc_set_injection_temperature (by rintro vs H Q E ⟨a, b, c, d, rfl, _⟩; rfl) fun cdv A outer s H vs Q E hr h => ?_
  have G_check_temperature := c_check_temperature (P := P) (w := w) (base := base) T
  have G_whole := c_whole (P := P) (w := w) (base := base) T
  obtain ⟨x, r, B, t, rfl, ht32, c⟩ := h
  obtain ⟨dx, aR, aI, aS, aP, aV, R⟩ := id c.res
  refine ⟨_, (pss_cons (ps_expr (pe_fx G_check_temperature hr (by decide) rfl (passE rfl rfl rfl rfl) (by exact (pa_cons (pv 1) pa_nil))))
    (pss_cons (ps_set (i := 2) sc_set_injection_temperature.nd rfl (Or.inl rfl) (pe_fld (pv 0) rfl))
    (pss_cons (ps_fld (pv 0) (pe_fn G_whole hr (by decide) rfl (by exact (pa_cons (pv 1) pa_nil))) rfl)
    (pss_one (ps_ret (pe_op op_cat (pe_lst (pa_cons pe_int pa_nil)) (pe_callTy call_list_of (by rfl) T.m_list (by decide +kernel) (pa_cons (pv 2) pa_nil)))))))), ?_⟩
  refine ⟨_, rfl, t, rfl, fun ht => c.bad _ (Cf.f_inj ht), fun ht => ?_⟩
  refine ⟨_, rfl, rd_inj T R ?_⟩
  refine ⟨_, rfl, (t : Int), rfl, fun H1 p1 s1 f1 => ?_⟩
  have R1 := R.keep s1
  refine ⟨_, rfl, x, CV, dx, _, rfl, R1.o, T.clR, T.a_injection, len_res, ?_⟩
  rw [put_inj]
  have R2 := R1.newInj f1
  have f0 := fr_put (u := .ins CV dx (resF aR p1 aS aP (r.producedCount : Int) r.saved.isSome aV)) R1.inj R1.o
  have o2 : Others H (upd H1 x (.ins CV dx (resF aR p1 aS aP (r.producedCount : Int) r.saved.isSome aV))) x := Others.put s1
  generalize upd H1 x (.ins CV dx (resF aR p1 aS aP (r.producedCount : Int) r.saved.isSome aV)) = H2 at R2 f0 o2
  refine ⟨(by show 1 ≤ sizeLine; decide), fun p3 hp3 => ⟨_, rfl, cat_fr (K := K) upd_same (by show 1 ≤ 100; decide) (f0.keep (TK.new hp3)) fun H4 p5 s4 hp5 => ?_⟩⟩
  have s24 := Same.trans (Same.new (o := .lst [V.int 0]) hp3) s4
  exact (c.good _ _ (Cf.d_inj ht)).end ⟨_, _, _, _, _, _, R2.keep s24⟩ (o2.trans (Others.of s24)) hp5
theorem c_run_steps (T : Txt K mg CR CV CS) : CalM P w K mg base (L2.CX P w) 8 CV "run_steps" ["self", "steps"] (spRun K CR CV) := by
  refine calM_mk T.d_run_steps fun f fd F => F.okX sc_run_steps (by rintro vs H Q E ⟨a, b, c, d, rfl, _⟩; rfl) fun cdv A outer s H vs Q E hr h => ?_
  have G_after_steps := c_after_steps (P := P) (w := w) (base := base) T
  have G_sum_of := c_sum_of (P := P) (w := w) (base := base) T
  have G_plus := c_plus (P := P) (w := w) (base := base) T
  have G_times := c_times (P := P) (w := w) (base := base) T
  have G_check_denominators := c_check_denominators (P := P) (w := w) (base := base) T
  have G_temperatures_of := c_temperatures_of (P := P) (w := w) (base := base) T
  obtain ⟨x, r, B, k, rfl, ⟨dx, aR, aI, aS, aP, aV, R⟩, ok, big, hk, kR, kQ⟩ := h
  refine ⟨_, (pss_cons (ps_asg (pe_fn G_after_steps hr (by decide) rfl (by exact (pa_cons (pe_fld (pv 0) rfl) (pa_cons (pe_fld (pv 0) rfl) (pa_cons (pv 1) pa_nil))))) (pg_tup rfl (pgs_cons (pg_name (i := 2) sc_run_steps.nd rfl (Or.inl rfl)) (pgs_cons (pg_name (i := 3) sc_run_steps.nd rfl (Or.inl rfl)) pgs_nil))))
    (pss_cons (ps_set (i := 4) sc_run_steps.nd rfl (Or.inl rfl) (pe_fn G_sum_of hr (by decide) rfl (by exact (pa_cons (pv 3) pa_nil))))
    (pss_cons (ps_set (i := 5) sc_run_steps.nd rfl (Or.inl rfl) (pe_fn G_plus hr (by decide) rfl (by exact (pa_cons (pe_fld (pv 0) rfl) (pa_cons (pe_fn G_times hr (by decide) rfl (by exact (pa_cons (pe_fld (pv 0) rfl) (pa_cons (pv 1) pa_nil)))) pa_nil)))))
    (pss_cons (ps_set (i := 6) sc_run_steps.nd rfl (Or.inl rfl) (pe_fn G_plus hr (by decide) rfl (by exact (pa_cons (pe_fld (pv 0) rfl) (pa_cons (pv 4) pa_nil)))))
    (pss_cons (ps_expr (pe_fx G_check_denominators hr (by decide) rfl (passE rfl rfl rfl rfl) (by exact (pa_cons (pe_op op_cat (pe_fn G_temperatures_of hr (by decide) rfl (by exact (pa_cons (pv 2) pa_nil))) (pe_lst (pa_cons (pv 5) (pa_cons (pv 6) pa_nil)))) pa_nil))))
    (pss_cons (ps_fld (pv 0) (pv 2) rfl)
    (pss_cons (ps_fld (pv 0) (pv 5) rfl)
    (pss_cons (ps_fld (pv 0) (pv 6) rfl)
    (pss_cons (ps_fldaug (pv 0) (pv 1) in_add)
    (pss_one (ps_ret (pv 4)))))))))))), ?_⟩
  have h8 := ok.row.most
  refine ⟨_, rfl, rd_row T R ⟨_, rfl, rd_inj T R ⟨_, rfl, aR, aI, r.cells, r.injection, k, rfl, R.row, h8, R.inj, ok.steps hk, hk, fun H1 t p rr s1 et hrow hout => ?_⟩⟩⟩
  refine ⟨t, _, rfl, SqT.of et, rfl, _, _, rfl, _, _, rfl, rfl, ?_⟩
  refine ⟨_, rfl, rr, _, rfl, hout, ok.outsSm hk, fun H2 pg s2 fg => ?_⟩
  have s02 := Same.trans s1 s2
  have R2 := R.keep s02
  refine ⟨_, rfl, rd_isum T R2 ⟨_, rfl, rd_inj T R2 ⟨_, rfl, aI, _, (k : Int), rfl, R2.inj, ok.injSm, cap_small hk, fun H3 p3 s3 f3 => ?_⟩⟩⟩
  refine ⟨aS, p3, _, _, rfl, R2.isum.keep (TK.of s3), f3, ok.isum.sm (by omega), ok.injkSm hk, fun H4 pi s4 fi => ?_⟩
  have s24 := Same.trans s3 s4
  have s04 := Same.trans s02 s24
  have R4 := R.keep s04
  refine ⟨_, rfl, rd_psum T R4 ⟨_, rfl, aP, pg, _, _, rfl, R4.psum, fg.keep (TK.of s24), ok.psum.sm (by omega), ok.gainSm hk, fun H5 pp s5 fp => ?_⟩⟩
  have s25 := Same.trans s24 s5
  have s15 := Same.trans s2 s25
  have hl : (advN r.injection k r.cells).length = r.cells.length := Cf.advN_len _ _ _
  refine ⟨_, rfl, p, _, rfl, hrow.same stab_cell s15, by rw [hl]; exact h8, fun H6 pt s6 ft qt => ?_⟩
  obtain ⟨ts, ht, sqt⟩ := qt
  refine ⟨_, rfl, _, rfl, (by show 2 ≤ sizeLine; decide), fun pl hpl => ?_⟩
  have s7 : Same H6 (upd H6 pl (.lst [.ref pi, .ref pp])) := Same.new hpl
  have e7 : upd H6 pl (.lst [.ref pi, .ref pp]) pl = some (.lst [.ref pi, .ref pp]) := upd_same
  generalize upd H6 pl (.lst [.ref pi, .ref pp]) = H7 at s7 e7
  have hts : ts.length ≤ 16 := by
    rw [sqt.len]
    unfold Cf.temps
    rw [List.length_append, List.length_map, List.length_map, hl]
    omega
  refine ⟨pt, pl, _, _, rfl, rfl, s7 _ _ ht, e7, size8' (by rw [List.length_map]; show ts.length + 2 ≤ 1000; omega), fun pc hpc => ?_⟩
  have s8 : Same H7 (upd H7 pc (.lst (ts.map V.ref ++ [.ref pi, .ref pp]))) := Same.new hpc
  have e8 : upd H7 pc (.lst (ts.map V.ref ++ [.ref pi, .ref pp])) pc = some (.lst (ts.map V.ref ++ [.ref pi, .ref pp])) := upd_same
  generalize upd H7 pc (.lst (ts.map V.ref ++ [.ref pi, .ref pp])) = H8 at s8 e8
  have s68 := Same.trans s7 s8
  have s58 := Same.trans s6 s68
  have s48 := Same.trans s5 s58
  have s08 := Same.trans s04 s48
  have hqs : FrsAt K H8 pc (temps (advN r.injection k r.cells) ++ [r.injectedSum + r.injection * ((k : Int) : Rat), r.producedSum + gained r k]) := by
    refine ⟨ts ++ [pi, pp], ?_, ?_⟩
    · rw [List.map_append]
      exact e8
    · exact SeqOf.append (P := FrAt K H8) (SeqOf.mono (Q := FrAt K H8) sqt fun b z qq => TupAt.keep qq (TK.of s68)) (SeqOf.append (as := [pi]) (zs := [_]) (P := FrAt K H8) (SeqOf.one (TupAt.keep fi (TK.of s48))) (SeqOf.one (TupAt.keep fp (TK.of s58))))
  have es : Kqk1.denominatorsAreSmall (Kqk1.advanceMany k r) = small (temps (advN r.injection k r.cells) ++ [r.injectedSum + r.injection * ((k : Int) : Rat), r.producedSum + gained r k]) := by
    rw [Cf.small_eq, Cf.many_cells, Cf.many_isum, Cf.many_psum]
    rfl
  rw [es] at kR kQ
  refine ⟨pc, _, rfl, hqs, fun hs => (kR hs).from s08, fun hs => ?_⟩
  have R8 := R.keep s08
  refine ⟨_, rfl, _, rfl, x, CV, dx, _, rfl, R8.o, T.clR, T.a_row, len_res, ?_⟩
  rw [put_row]
  refine ⟨_, rfl, _, rfl, x, CV, dx, _, rfl, upd_same, T.clR, T.a_injected_sum, len_res, ?_⟩
  rw [put_isum, upd_upd]
  refine ⟨_, rfl, _, rfl, x, CV, dx, _, rfl, upd_same, T.clR, T.a_produced_sum, len_res, ?_⟩
  rw [put_psum, upd_upd]
  refine ⟨_, rfl, x, CV, dx, _, _, rfl, upd_same, T.clR, T.a_produced_count, lk_cnt, _, rfl, _, _, rfl, rfl, dx, _, upd_same, len_res, ?_⟩
  rw [put_cnt, upd_upd]
  have ec : (r.producedCount : Int) + (k : Int) = ((Kqk1.advanceMany k r).producedCount : Int) := by rw [Cf.many_count, Int.natCast_add]
  have ev : r.saved.isSome = (Kqk1.advanceMany k r).saved.isSome := by rw [Cf.many_saved]
  rw [ec, ev]
  refine ⟨_, rfl, kQ hs _ pg ?_ ⟨dx, p, aI, pi, pp, aV, Res.put (r := Kqk1.advanceMany k r) (dx' := dx) R8.o ?_ ?_ ?_ ?_ ?_⟩ (Others.put s08)⟩
  · exact fr_put (fg.keep (TK.of (Same.trans s25 s58))) R8.o
  · rw [Cf.many_cells]
    exact hrow.same stab_cell (Same.trans s15 s58)
  · rw [Cf.many_inj]
    exact R8.inj
  · rw [Cf.many_isum]
    exact fi.keep (TK.of s48)
  · rw [Cf.many_psum]
    exact fp.keep (TK.of s58)
  · intro l hl
    rw [Cf.many_saved] at hl
    exact R8.sav l hl
theorem c_advance (T : Txt K mg CR CV CS) : CalM P w K mg base (L2.CX P w) 9 CV "advance" ["self"] (spOp0 K CR CV Request.advance) := by
  refine calM_mk T.d_advance fun f fd F => F.okX sc_advance (by rintro vs H Q E ⟨a, b, c, rfl, _⟩; rfl) fun cdv A outer s H vs Q E hr h => ?_
  have G_run_steps := c_run_steps (P := P) (w := w) (base := base) T
  obtain ⟨x, r, B, rfl, c⟩ := h
  refine ⟨_, (pss_one (ps_ret (pe_op op_cat (pe_lst (pa_cons pe_int pa_nil)) (pe_callTy call_list_of (by rfl) T.m_list (by decide +kernel) (pa_cons (pe_mt T.clR G_run_steps hr (by decide) (passE rfl rfl rfl rfl) (pv 0) (by exact (pa_cons pe_int pa_nil))) pa_nil))))), ?_⟩
  refine ⟨(by show 1 ≤ sizeLine; decide), fun p1 hp1 => ?_⟩
  have s1 : Same H (upd H p1 (.lst [.int 0])) := Same.new hp1
  have e1 : upd H p1 (.lst [.int 0]) p1 = some (.lst [.int 0]) := upd_same
  generalize upd H p1 (.lst [.int 0]) = H1 at s1 e1
  have r1 := c.res.keep s1
  obtain ⟨dx, aR, aI, aS, aP, aV, R⟩ := id r1
  refine ⟨_, rfl, x, dx, _, rfl, R.o, lk_meth (by decide +kernel), x, r, B, 1, rfl, r1, c.ok, c.big, by decide, fun hs => (c.bad _ (Cf.f_adv hs)).from s1, fun hs H2 p2 f2 r2 o2 => ?_⟩
  have n1 : p1 ≠ x := fun z => by rw [z, R.o] at e1; cases e1
  refine cat_fr (K := K) (o2 _ _ e1 n1) (by show 1 ≤ 100; decide) f2 fun H4 p5 s4 hp5 => ?_
  exact (c.good _ _ (Cf.d_adv hs)).end (r2.keep s4) ((Others.of s1).trans (o2.trans (Others.of s4))) hp5
theorem c_advance_many (T : Txt K mg CR CV CS) : CalM P w K mg base (L2.CX P w) 9 CV "advance_many" ["self", "steps"] (spOp1 K CR CV Request.advanceMany) := by
  refine calM_mk T.d_advance_many fun f fd F => F.okX sc_advance_many (by rintro vs H Q E ⟨a, b, c, d, rfl, _⟩; rfl) fun cdv A outer s H vs Q E hr h => ?_
  have G_run_steps := c_run_steps (P := P) (w := w) (base := base) T
  have G_refuse_if := c_refuse_if (P := P) (w := w) (base := base) T
  obtain ⟨x, r, B, k, rfl, hk32, c⟩ := h
  refine ⟨_, (pss_cons (ps_expr (pe_fx G_refuse_if hr (by decide) rfl (passE rfl rfl rfl rfl) (by exact (pa_cons (pe_or (pe_cmpR op_lt (pv 1) pe_int (nomark _)) (pe_one (pe_cmpR op_gt (pv 1) (pe_gi rfl T.g_MOST_STEPS) (nomark _)))) (pa_cons (pe_gi rfl T.g_OUT_OF_RANGE) pa_nil)))))
    (pss_one (ps_ret (pe_op op_cat (pe_lst (pa_cons pe_int pa_nil)) (pe_callTy call_list_of (by rfl) T.m_list (by decide +kernel) (pa_cons (pe_mt T.clR G_run_steps hr (by decide) (passE rfl rfl rfl rfl) (pv 0) (by exact (pa_cons (pv 1) pa_nil))) pa_nil)))))), ?_⟩
  by_cases hk : k < 1 ∨ 20 < k
  · by_cases h1 : k < 1
    · refine ⟨_, rfl, _, _, rfl, rfl, true, congrArg V.bl (decide_eq_true (by omega)), iteT ⟨_, _, rfl, fun _ => c.bad _ (Cf.f_many1 hk), fun z => Bool.noConfusion z⟩⟩
    · refine ⟨_, rfl, _, _, rfl, rfl, false, congrArg V.bl (decide_eq_false (by omega)), iteF ⟨_, rfl, _, _, rfl, rfl, _, _, rfl, fun _ => c.bad _ (Cf.f_many1 hk), fun z => ?_⟩⟩
      have := of_decide_eq_false z
      omega
  refine ⟨_, rfl, _, _, rfl, rfl, false, congrArg V.bl (decide_eq_false (by omega)), iteF ⟨_, rfl, _, _, rfl, rfl, _, _, rfl, fun z => ?_, fun _ => ?_⟩⟩
  · have := of_decide_eq_true z
    omega
  refine ⟨(by show 1 ≤ sizeLine; decide), fun p1 hp1 => ?_⟩
  have s1 : Same H (upd H p1 (.lst [.int 0])) := Same.new hp1
  have e1 : upd H p1 (.lst [.int 0]) p1 = some (.lst [.int 0]) := upd_same
  generalize upd H p1 (.lst [.int 0]) = H1 at s1 e1
  have r1 := c.res.keep s1
  obtain ⟨dx, aR, aI, aS, aP, aV, R⟩ := id r1
  refine ⟨_, rfl, x, dx, _, rfl, R.o, lk_meth (by decide +kernel), _, rfl, x, r, B, k, rfl, r1, c.ok, c.big, by omega, fun hs => (c.bad _ (Cf.f_many2 hk hs)).from s1, fun hs H2 p2 f2 r2 o2 => ?_⟩
  have n1 : p1 ≠ x := fun z => by rw [z, R.o] at e1; cases e1
  refine cat_fr (K := K) (o2 _ _ e1 n1) (by show 1 ≤ 100; decide) f2 fun H4 p5 s4 hp5 => ?_
  exact (c.good _ _ (Cf.d_many hk hs)).end (r2.keep s4) ((Others.of s1).trans (o2.trans (Others.of s4))) hp5
theorem c_equilibrate (T : Txt K mg CR CV CS) : CalM P w K mg base (L2.CX P w) 6 CV "equilibrate" ["self"] (spOp0 K CR CV Request.equilibrate) := by
  refine calM_mk T.d_equilibrate fun f fd F => F.okX sc_equilibrate (by rintro vs H Q E ⟨a, b, c, rfl, _⟩; rfl) fun cdv A outer s H vs Q E hr h => ?_
  have G_all_equilibrated := c_all_equilibrated (P := P) (w := w) (base := base) T
  have G_check_denominators := c_check_denominators (P := P) (w := w) (base := base) T
  have G_temperatures_of := c_temperatures_of (P := P) (w := w) (base := base) T
  obtain ⟨x, r, B, rfl, c⟩ := h
  obtain ⟨dx, aR, aI, aS, aP, aV, R⟩ := id c.res
  refine ⟨_, (pss_cons (ps_set (i := 1) sc_equilibrate.nd rfl (Or.inl rfl) (pe_fn G_all_equilibrated hr (by decide) rfl (by exact (pa_cons (pe_fld (pv 0) rfl) pa_nil))))
    (pss_cons (ps_expr (pe_fx G_check_denominators hr (by decide) rfl (passE rfl rfl rfl rfl) (by exact (pa_cons (pe_fn G_temperatures_of hr (by decide) rfl (by exact (pa_cons (pv 1) pa_nil))) pa_nil))))
    (pss_cons (ps_fld (pv 0) (pv 1) rfl)
    (pss_one (ps_ret (pe_lst (pa_cons (pe_callB call_len_seq (by rfl) T.m_len PySem.boot_len (pa_cons (pe_fld (pv 0) rfl) pa_nil)) pa_nil))))))), ?_⟩
  have h8 := c.ok.row.most
  refine ⟨_, rfl, rd_row T R ⟨aR, _, rfl, R.row, h8, c.ok.row.sm, fun H1 p1 s1 f1 hp1 => ?_⟩⟩
  refine ⟨_, rfl, p1, _, rfl, hp1, by rw [List.length_map]; exact h8, fun H2 p2 s2 f2 hp2 => ?_⟩
  have s02 := Same.trans s1 s2
  refine ⟨p2, _, rfl, hp2, fun hs => (c.bad _ (Cf.f_equ c.ok hs)).from s02, fun hs => ?_⟩
  have R2 := R.keep s02
  refine ⟨_, rfl, _, rfl, x, CV, dx, _, rfl, R2.o, T.clR, T.a_row, len_res, ?_⟩
  rw [put_row]
  have R3 := R2.newRow (hp1.same stab_cell s2)
  obtain ⟨bs, hb, hnb, hqb, sqb⟩ := R3.row.sq (K := K)
  rw [List.length_map] at hnb
  refine ⟨_, rfl, rd_row T R3 ⟨p1, _, rfl, .inl hqb, ?_⟩⟩
  rw [row_len (l := r.cells) hnb]
  exact ⟨(by show 1 ≤ sizeLine; decide), fun p4 hp4 => (c.good _ _ (Cf.d_equ c.ok hs)).end ⟨_, _, _, _, _, _, R3⟩ (Others.put s02) hp4⟩
theorem c_next_parcels (T : Txt K mg CR CV CS) : CalM P w K mg base CX0 8 CV "next_parcels" ["self", "count"] (spNext K CR CV) := by
  refine calM_mk T.d_next_parcels fun f fd F => F.ok sc_next_parcels (by rintro vs H Q E ⟨a, b, c, d, rfl, _⟩; rfl) fun cdv A outer s H vs Q E hr h => ?_
  have G_after_steps := c_after_steps (P := P) (w := w) (base := base) T
  obtain ⟨x, r, B, k, rfl, ⟨dx, aR, aI, aS, aP, aV, R⟩, ok, hk, kQ⟩ := h
  refine ⟨_, (pss_one (ps_ret (pe_ix (r := rIxT K) ix_tup (pe_fn G_after_steps hr (by decide) rfl (by exact (pa_cons (pe_fld (pv 0) rfl) (pa_cons (pe_fld (pv 0) rfl) (pa_cons (pv 1) pa_nil))))) pe_int (fun _ _ => rfl)))), ?_⟩
  refine ⟨_, rfl, rd_row T R ⟨_, rfl, rd_inj T R ⟨_, rfl, aR, aI, r.cells, r.injection, k, rfl, R.row, ok.row.most, R.inj, ok.steps hk, hk, fun H1 t p rr s1 et hrow hout => ?_⟩⟩⟩
  exact ⟨t, _, _, _, rfl, rfl, SqT.of et, rfl, kQ H1 rr s1 hout⟩
end
end L2.CfX

end
section
/-! The reservoir's calls that tell, compare and average. -/
namespace L2.CfX
open PySem PySem.Spec PyProof.Rows L2
open Kqk1 (Cell Reservoir Request Result)
open Cf (Sm Bd CellSm RowSm StepsSm SumSm RowOk advN outs temps caps nowhere small sumR moved Ok Fails Does gained b01)
theorem ints_ne_refs {n : Int} {ns : List Int} {as : List Addr} : (V.int n :: ns.map V.int) ≠ as.map V.ref := by
  intro z
  cases as with
  | nil => cases z
  | cons a as => exact nomatch (List.cons.inj z).1
theorem flat_snoc (l : List Rat) (q : Rat) : (l ++ [q]).flatMap Kqk1.fraction = l.flatMap Kqk1.fraction ++ [q.num, (q.den : Int)] := by
  rw [List.flatMap_append]
  simp [Kqk1.fraction]
theorem flat_len (l : List Rat) : (l.flatMap Kqk1.fraction).length = 2 * l.length := by
  induction l with
  | nil => rfl
  | cons a l ih =>
    rw [List.flatMap_cons, List.length_append, ih, List.length_cons]
    show 2 + _ = _
    omega
section
variable {P : Program} {w : World} {K : PySem.W.Frag} {mg : Str → Option Value} {base : Heap} {CR CV CS : Addr}
theorem c_forecast (T : Txt K mg CR CV CS) : CalM P w K mg base (L2.CX P w) 9 CV "forecast" ["self", "count"] (spOp1 K CR CV Request.forecast) := by
  refine calM_mk T.d_forecast fun f fd F => F.okX sc_forecast (by rintro vs H Q E ⟨a, b, c, d, rfl, _⟩; rfl) fun cdv A outer s H vs Q E hr h => ?_
  have G_refuse_if := c_refuse_if (P := P) (w := w) (base := base) T
  have G_next_parcels := c_next_parcels (P := P) (w := w) (base := base) T
  obtain ⟨x, r, B, k, rfl, hk32, c⟩ := h
  refine ⟨_, (pss_cons (ps_expr (pe_fx G_refuse_if hr (by decide) rfl (passE rfl rfl rfl rfl) (by exact (pa_cons (pe_cmpR op_gt (pv 1) (pe_gi rfl T.g_MOST_STEPS) (nomark _)) (pa_cons (pe_gi rfl T.g_OUT_OF_RANGE) pa_nil)))))
    (pss_cons (ps_set (i := 2) sc_forecast.nd rfl (Or.inl rfl) (pe_lst (pa_cons (pv 1) pa_nil)))
    (pss_cons (ps_for (passes_of rfl) rfl (pi_list (pe_mt T.clR G_next_parcels hr (by decide) pass0 (pv 0) (by exact (pa_cons (pv 1) pa_nil)))) (pg_name (i := 3) sc_forecast.nd rfl (Or.inl rfl))
      (pss_one (ps_expr (pe_bm PySem.F.plainAttrs_list PySem.F.slot_list_extend PySem.F.type_list_extend mt_extend (pv 2) (pa_cons (pe_callTy call_list_of (by rfl) T.m_list (by decide +kernel) (pa_cons (pv 3) pa_nil)) pa_nil)))))
    (pss_one (ps_ret (pv 2)))))), ?_⟩
  refine ⟨_, rfl, _, _, rfl, rfl, _, _, rfl, fun z => c.bad _ (Cf.f_fore (by have := of_decide_eq_true z; omega)), fun z => ?_⟩
  have hk : ¬ 20 < k := by have := of_decide_eq_false z; omega
  refine ⟨_, rfl, (by show 1 ≤ sizeLine; decide), fun g hg => ?_⟩
  have s1 : Same H (upd H g (.lst [.int (k : Int)])) := Same.new hg
  have e1 : upd H g (.lst [.int (k : Int)]) g = some (.lst [.int (k : Int)]) := upd_same
  generalize upd H g (.lst [.int (k : Int)]) = H1 at s1 e1
  have r1 := c.res.keep s1
  obtain ⟨dx, aR, aI, aS, aP, aV, R⟩ := id r1
  refine ⟨_, rfl, x, dx, _, rfl, R.o, lk_meth (by decide +kernel), _, rfl, x, r, B, k, rfl, r1, c.ok, by omega, fun H2 pr s2 hout => ?_⟩
  obtain ⟨as, ha, hn, hq, sq⟩ := hout.sq (K := K)
  rw [Cf.outs_len] at hn
  have e2 := s2 _ _ e1
  have ng : pr ≠ g := fun z => by
    rw [z, e2] at ha
    exact ints_ne_refs (ns := []) (HO.lst.inj (Option.some.inj ha))
  refine ⟨pr, rfl, ⟨_, hq⟩, for_list (K := K) (a := pr) (xs := as.map V.ref) (fun i σ H' => ∃ v, σ = [some (.ref x), some (.int (k : Int)), some (.ref g), v] ∧ Same H H' ∧ TK H2 H' ∧ H' pr = some (.lst (as.map V.ref)) ∧ H' g = some (.lst (((k : Int) :: ((outs r.injection k r.cells).take i).flatMap Kqk1.fraction).map V.int)))
    ⟨none, rfl, Same.trans s1 s2, TK.refl, ha, e2⟩ (fun i σ H' _ ⟨_, _, _, _, hp, _⟩ => SqL.of hp) ?_ ?_⟩
  · rintro i y σ H' hi ⟨v, rfl, s3, t3, hp, hgl⟩
    obtain ⟨b, hb, rfl⟩ := ref_at hi
    obtain ⟨q, hqi, fb⟩ := sq.of_at hb
    have hik : i < k := by
      have := (List.getElem?_eq_some_iff.mp hqi).1
      rwa [Cf.outs_len] at this
    refine ⟨_, rfl, .inl ⟨rfl, _, SqL.of hgl⟩, _, rfl, b, _, rfl, .inr (TupAt.keep fb t3).sq, fun l hl => ?_⟩
    have sl : Same H' (upd H' l (.lst (frV q))) := Same.new hl
    have el : upd H' l (.lst (frV q)) l = some (.lst (frV q)) := upd_same
    generalize upd H' l (.lst (frV q)) = H5 at sl el
    have hg5 := sl _ _ hgl
    refine ⟨g, l, _, _, rfl, rfl, hg5, el, size8' (by rw [List.length_map, List.length_cons, flat_len, List.length_take, Cf.outs_len]; show _ + 1 + 2 ≤ 1000; omega), ?_⟩
    refine ⟨_, rfl, fun o u e => ?_, TK.trans t3 (TK.trans (TK.of sl) (TK.lst hg5)), ?_, ?_⟩
    · rw [upd_ne (ne_of_none e hg)]
      exact sl _ _ (s3 _ _ e)
    · rw [upd_ne ng]
      exact sl _ _ hp
    · rw [upd_same, take_one hqi, flat_snoc]
      refine congrArg (fun z => some (HO.lst z)) ?_
      rw [List.map_cons, List.map_cons, List.map_append]
      rfl
  · rintro σ H' ⟨v, rfl, s3, t3, hp, hgl⟩
    have e : (as.map V.ref).length = (outs r.injection k r.cells).length := by rw [List.length_map, hn, Cf.outs_len]
    rw [e, List.take_length] at hgl
    exact ⟨_, rfl, c.good _ _ (Cf.d_fore hk) H' g hg hgl (c.res.keep s3) (Others.of s3)⟩
theorem c_get_cell (T : Txt K mg CR CV CS) : CalM P w K mg base (L2.CX P w) 5 CV "get_cell" ["self", "cell"] (spOp1 K CR CV Request.getCell) := by
  refine calM_mk T.d_get_cell fun f fd F => F.okX sc_get_cell (by rintro vs H Q E ⟨a, b, c, d, rfl, _⟩; rfl) fun cdv A outer s H vs Q E hr h => ?_
  have G_check_cell := c_check_cell (P := P) (w := w) (base := base) T
  obtain ⟨x, r, B, i, rfl, hi32, c⟩ := h
  obtain ⟨dx, aR, aI, aS, aP, aV, R⟩ := id c.res
  refine ⟨_, (pss_cons (ps_expr (pe_mt T.clR G_check_cell hr (by decide) (passE rfl rfl rfl rfl) (pv 0) (by exact (pa_cons (pv 1) pa_nil))))
    (pss_cons (ps_asg (pe_ix (r := rIxL K) ix_list (pe_fld (pv 0) rfl) (pv 1) (fun _ _ => rfl)) (pg_tup rfl (pgs_cons (pg_name (i := 2) sc_get_cell.nd rfl (Or.inl rfl)) (pgs_cons (pg_name (i := 3) sc_get_cell.nd rfl (Or.inl rfl)) (pgs_cons (pg_name (i := 4) sc_get_cell.nd rfl (Or.inl rfl)) pgs_nil)))))
    (pss_one (ps_ret (pe_op op_cat (pe_op op_cat (pe_lst (pa_cons (pv 2) pa_nil)) (pe_callTy call_list_of (by rfl) T.m_list (by decide +kernel) (pa_cons (pv 3) pa_nil))) (pe_callTy call_list_of (by rfl) T.m_list (by decide +kernel) (pa_cons (pv 4) pa_nil))))))), ?_⟩
  refine ⟨_, rfl, x, dx, _, rfl, R.o, lk_meth (by decide +kernel), _, rfl, x, r, i, rfl, c.res, fun hi => c.bad _ (Cf.f_get hi), fun hi => ?_⟩
  obtain ⟨as, ha, hn, hq, sq⟩ := R.row.sq (K := K)
  have hci : r.cells[i]? = some r.cells[i] := List.getElem?_eq_getElem hi
  generalize r.cells[i] = cc at hci
  obtain ⟨b, hb, ra, wa, q1, q2, q3⟩ := sq.at hci
  refine ⟨_, rfl, rd_row T R ⟨_, rfl, aR, _, _, _, rfl, rfl, hq, atI_nat (at_ref hb), b, _, rfl, q1.sq, rfl, _, _, rfl, _, _, rfl, _, _, rfl, rfl, ?_⟩⟩
  refine ⟨_, rfl, (by show 1 ≤ sizeLine; decide), fun p1 hp1 => ?_⟩
  have s1 : Same H (upd H p1 (.lst [.int (cc.rockCapacity : Int)])) := Same.new hp1
  have e1 : upd H p1 (.lst [.int (cc.rockCapacity : Int)]) p1 = some (.lst [.int (cc.rockCapacity : Int)]) := upd_same
  generalize upd H p1 (.lst [.int (cc.rockCapacity : Int)]) = H1 at s1 e1
  refine ⟨_, rfl, ra, _, rfl, .inr (q2.keep (TK.of s1)).sq, fun l hl => ?_⟩
  have sl : Same H1 (upd H1 l (.lst (frV cc.rock))) := Same.new hl
  refine ⟨p1, l, _, _, rfl, rfl, sl _ _ e1, upd_same, (by show 1 + 2 ≤ sizeLine; decide), fun p2 hp2 => ?_⟩
  have s12 := Same.trans sl (Same.new (o := .lst ([V.int (cc.rockCapacity : Int)] ++ frV cc.rock)) hp2)
  have s02 := Same.trans s1 s12
  refine ⟨_, rfl, cat_fr (K := K) upd_same (by show 3 ≤ 100; decide) (q3.keep (TK.of s02)) fun H3 p3 s3 hp3 => ?_⟩
  have s03 := Same.trans s02 s3
  exact (c.good _ _ (Cf.d_get hci)).end (c.res.keep s03) (Others.of s03) hp3
theorem c_total_heat (T : Txt K mg CR CV CS) : CalM P w K mg base CX0 6 CV "total_heat" ["self"] (spOp0n K CR CV Request.totalHeat) := by
  refine calM_mk T.d_total_heat fun f fd F => F.ok sc_total_heat (by rintro vs H Q E ⟨_, a, b, c, rfl, _⟩; rfl) fun cdv A outer s H vs Q E hr h => ?_
  have G_heat_of := c_heat_of (P := P) (w := w) (base := base) T
  obtain ⟨_, x, r, B, rfl, c⟩ := h
  refine ⟨_, (pss_one (ps_ret (pe_op op_cat (pe_lst (pa_cons pe_int pa_nil)) (pe_callTy call_list_of (by rfl) T.m_list (by decide +kernel) (pa_cons (pe_fn G_heat_of hr (by decide) rfl (by exact (pa_cons (pe_fld (pv 0) rfl) pa_nil))) pa_nil))))), ?_⟩
  refine ⟨(by show 1 ≤ sizeLine; decide), fun p1 hp1 => ?_⟩
  have s1 : Same H (upd H p1 (.lst [.int 0])) := Same.new hp1
  have e1 : upd H p1 (.lst [.int 0]) p1 = some (.lst [.int 0]) := upd_same
  generalize upd H p1 (.lst [.int 0]) = H1 at s1 e1
  have r1 := c.res.keep s1
  obtain ⟨dx, aR, aI, aS, aP, aV, R⟩ := id r1
  refine ⟨_, rfl, rd_row T R ⟨aR, _, rfl, R.row, c.ok.row.most, c.ok.row.sm, c.ok.row.heatSm, fun H2 p2 s2 f2 => ?_⟩⟩
  refine cat_fr (K := K) (s2 _ _ e1) (by show 1 ≤ 100; decide) f2 fun H4 p5 s4 hp5 => ?_
  have s04 := Same.trans s1 (Same.trans s2 s4)
  have k := c.good _ _ Cf.d_heat
  rw [Cf.total_eq] at k
  exact k.end (c.res.keep s04) (Others.of s04) hp5
theorem c_balance (T : Txt K mg CR CV CS) : CalM P w K mg base CX0 2 CV "balance" ["self"] (spOp0n K CR CV Request.balance) := by
  refine calM_mk T.d_balance fun f fd F => F.ok sc_balance (by rintro vs H Q E ⟨_, a, b, c, rfl, _⟩; rfl) fun cdv A outer s H vs Q E hr h => ?_
  obtain ⟨_, x, r, B, rfl, c⟩ := h
  obtain ⟨dx, aR, aI, aS, aP, aV, R⟩ := id c.res
  refine ⟨_, (pss_one (ps_ret (pe_op op_cat (pe_op op_cat (pe_lst (pa_cons (pe_fld (pv 0) rfl) pa_nil)) (pe_callTy call_list_of (by rfl) T.m_list (by decide +kernel) (pa_cons (pe_fld (pv 0) rfl) pa_nil))) (pe_callTy call_list_of (by rfl) T.m_list (by decide +kernel) (pa_cons (pe_fld (pv 0) rfl) pa_nil))))), ?_⟩
  refine ⟨_, rfl, rd_cnt T R ⟨(by show 1 ≤ sizeLine; decide), fun p1 hp1 => ?_⟩⟩
  have s1 : Same H (upd H p1 (.lst [.int (r.producedCount : Int)])) := Same.new hp1
  have e1 : upd H p1 (.lst [.int (r.producedCount : Int)]) p1 = some (.lst [.int (r.producedCount : Int)]) := upd_same
  generalize upd H p1 (.lst [.int (r.producedCount : Int)]) = H1 at s1 e1
  have R1 := R.keep s1
  refine ⟨_, rfl, rd_isum T R1 ⟨aS, _, rfl, .inr R1.isum.sq, fun l hl => ?_⟩⟩
  have sl : Same H1 (upd H1 l (.lst (frV r.injectedSum))) := Same.new hl
  refine ⟨p1, l, _, _, rfl, rfl, sl _ _ e1, upd_same, (by show 1 + 2 ≤ sizeLine; decide), fun p2 hp2 => ?_⟩
  have s12 := Same.trans sl (Same.new (o := .lst ([V.int (r.producedCount : Int)] ++ frV r.injectedSum)) hp2)
  have R3 := R1.keep s12
  refine ⟨_, rfl, rd_psum T R3 (cat_fr (K := K) upd_same (by show 3 ≤ 100; decide) R3.psum fun H4 p4 s4 hp4 => ?_)⟩
  have s04 := Same.trans s1 (Same.trans s12 s4)
  exact (c.good _ _ Cf.d_bal).end (c.res.keep s04) (Others.of s04) hp4
theorem c_hottest (T : Txt K mg CR CV CS) : CalM P w K mg base CX0 3 CV "hottest" ["self"] (spOp0n K CR CV Request.hottest) := by
  refine calM_mk T.d_hottest fun f fd F => F.ok sc_hottest (by rintro vs H Q E ⟨_, a, b, c, rfl, _⟩; rfl) fun cdv A outer s H vs Q E hr h => ?_
  have G_temperatures_of := c_temperatures_of (P := P) (w := w) (base := base) T
  have G_greatest_of := c_greatest_of (P := P) (w := w) (base := base) T
  obtain ⟨_, x, r, B, rfl, c⟩ := h
  refine ⟨_, (pss_one (ps_ret (pe_op op_cat (pe_lst (pa_cons pe_int pa_nil)) (pe_callTy call_list_of (by rfl) T.m_list (by decide +kernel) (pa_cons (pe_fn G_greatest_of hr (by decide) rfl (by exact (pa_cons (pe_fn G_temperatures_of hr (by decide) rfl (by exact (pa_cons (pe_fld (pv 0) rfl) pa_nil))) pa_nil))) pa_nil))))), ?_⟩
  refine ⟨(by show 1 ≤ sizeLine; decide), fun p1 hp1 => ?_⟩
  have s1 : Same H (upd H p1 (.lst [.int 0])) := Same.new hp1
  have e1 : upd H p1 (.lst [.int 0]) p1 = some (.lst [.int 0]) := upd_same
  generalize upd H p1 (.lst [.int 0]) = H1 at s1 e1
  have r1 := c.res.keep s1
  obtain ⟨dx, aR, aI, aS, aP, aV, R⟩ := id r1
  refine ⟨_, rfl, rd_row T R ⟨aR, _, rfl, R.row, c.ok.row.most, fun H2 p2 s2 f2 q2 => ?_⟩⟩
  refine ⟨p2, _, rfl, q2, (Cf.temps_ne c.ok.row.one).1, c.ok.row.tempsSm, fun p3 f3 => ?_⟩
  refine cat_fr (K := K) (s2 _ _ e1) (by show 1 ≤ 100; decide) f3 fun H4 p5 s4 hp5 => ?_
  have s04 := Same.trans s1 (Same.trans s2 s4)
  exact (c.good _ _ (Cf.d_hot c.ok.row.one)).end (c.res.keep s04) (Others.of s04) hp5
theorem c_coldest (T : Txt K mg CR CV CS) : CalM P w K mg base CX0 3 CV "coldest" ["self"] (spOp0n K CR CV Request.coldest) := by
  refine calM_mk T.d_coldest fun f fd F => F.ok sc_coldest (by rintro vs H Q E ⟨_, a, b, c, rfl, _⟩; rfl) fun cdv A outer s H vs Q E hr h => ?_
  have G_temperatures_of := c_temperatures_of (P := P) (w := w) (base := base) T
  have G_least_of := c_least_of (P := P) (w := w) (base := base) T
  obtain ⟨_, x, r, B, rfl, c⟩ := h
  refine ⟨_, (pss_one (ps_ret (pe_op op_cat (pe_lst (pa_cons pe_int pa_nil)) (pe_callTy call_list_of (by rfl) T.m_list (by decide +kernel) (pa_cons (pe_fn G_least_of hr (by decide) rfl (by exact (pa_cons (pe_fn G_temperatures_of hr (by decide) rfl (by exact (pa_cons (pe_fld (pv 0) rfl) pa_nil))) pa_nil))) pa_nil))))), ?_⟩
  refine ⟨(by show 1 ≤ sizeLine; decide), fun p1 hp1 => ?_⟩
  have s1 : Same H (upd H p1 (.lst [.int 0])) := Same.new hp1
  have e1 : upd H p1 (.lst [.int 0]) p1 = some (.lst [.int 0]) := upd_same
  generalize upd H p1 (.lst [.int 0]) = H1 at s1 e1
  have r1 := c.res.keep s1
  obtain ⟨dx, aR, aI, aS, aP, aV, R⟩ := id r1
  refine ⟨_, rfl, rd_row T R ⟨aR, _, rfl, R.row, c.ok.row.most, fun H2 p2 s2 f2 q2 => ?_⟩⟩
  refine ⟨p2, _, rfl, q2, (Cf.temps_ne c.ok.row.one).1, c.ok.row.tempsSm, fun p3 f3 => ?_⟩
  refine cat_fr (K := K) (s2 _ _ e1) (by show 1 ≤ 100; decide) f3 fun H4 p5 s4 hp5 => ?_
  have s04 := Same.trans s1 (Same.trans s2 s4)
  exact (c.good _ _ (Cf.d_cold c.ok.row.one)).end (c.res.keep s04) (Others.of s04) hp5
theorem t_small {t : Nat} (h : t < 2 ^ 32) : Sm (((t : Int)) : Rat) := Cf.whole_sm (by rw [Int.natAbs_natCast]; exact Nat.lt_trans h (Nat.pow_lt_pow_right (by decide) (by decide)))
theorem c_breakthrough (T : Txt K mg CR CV CS) : CalM P w K mg base (L2.CX P w) 9 CV "breakthrough" ["self", "temperature"] (spOp1 K CR CV Request.breakthrough) := by
  refine calM_mk T.d_breakthrough fun f fd F => F.okX sc_breakthrough (by rintro vs H Q E ⟨a, b, c, d, rfl, _⟩; rfl) fun cdv A outer s H vs Q E hr h => ?_
  have G_next_parcels := c_next_parcels (P := P) (w := w) (base := base) T
  have G_is_below := c_is_below (P := P) (w := w) (base := base) T
  have G_whole := c_whole (P := P) (w := w) (base := base) T
  have G_Refusal := c_Refusal_init (P := P) (w := w) (base := base) T
  obtain ⟨x, r, B, t, rfl, ht32, c⟩ := h
  obtain ⟨dx, aR, aI, aS, aP, aV, R⟩ := id c.res
  refine ⟨_, (pss_cons (ps_for (passes_of rfl) rfl (pi_enum (by rfl) T.m_enumerate (pa_cons (pe_mt T.clR G_next_parcels hr (by decide) pass0 (pv 0) (by exact (pa_cons (pe_gi rfl T.g_MOST_STEPS) pa_nil))) pa_nil)) (pg_tup rfl (pgs_cons (pg_name (i := 2) sc_breakthrough.nd rfl (Or.inl rfl)) (pgs_cons (pg_name (i := 3) sc_breakthrough.nd rfl (Or.inl rfl)) pgs_nil)))
      (pss_one (ps_if (pt_val (pe_fn G_is_below hr (by decide) rfl (by exact (pa_cons (pv 3) (pa_cons (pe_fn G_whole hr (by decide) rfl (by exact (pa_cons (pv 1) pa_nil))) pa_nil))))) (pss_one (ps_ret (pe_lst (pa_cons (pv 2) pa_nil)))) pss_nil)))
    (pss_one (ps_raise rfl (takes_of rfl rfl rfl rfl) (pmk_e T.rc G_Refusal hr (by decide) (by rfl) (pa_cons (pe_gi rfl T.g_NO_BREAKTHROUGH) pa_nil))))), ?_⟩
  refine ⟨_, rfl, x, dx, _, rfl, R.o, lk_meth (by decide +kernel), x, r, B, 20, rfl, c.res, c.ok, by decide, fun H1 pr s1 hout => ?_⟩
  obtain ⟨as, ha, hn, hq, sq⟩ := hout.sq (K := K)
  have osm := c.ok.outsSm (k := 20) (by decide)
  refine ⟨pr, _, rfl, hq, for_it (walk_enum (K := K) (a := pr) (xs := as.map V.ref)) (fun i σ H' => ∃ v2 v3, σ = [some (.ref x), some (.int (t : Int)), v2, v3] ∧ Same H1 H' ∧ ∀ j p, j < i → (outs r.injection 20 r.cells)[j]? = some p → ¬ p < (t : Rat))
    ⟨none, none, rfl, Same.refl _, fun j p hj => absurd hj (Nat.not_lt_zero _)⟩ (fun i σ H' _ ⟨_, _, _, s3, _⟩ => s3.seq hq) ?_ ?_⟩
  · rintro i y σ H' H2 hi ⟨v2, v3, rfl, s3, hb⟩ ⟨Tp, x1, x2, rfl, hT, rfl, hx1, hx2⟩
    cases hx1
    obtain ⟨b, hbb, rfl⟩ := ref_at hx2
    obtain ⟨q, hqi, fb⟩ := sq.of_at hbb
    have sT : Same H' (upd H' Tp (.tup [V.int (i : Int), V.ref b])) := Same.new hT
    have eT : upd H' Tp (.tup [V.int (i : Int), V.ref b]) Tp = some (.tup [V.int (i : Int), V.ref b]) := upd_same
    generalize upd H' Tp (.tup [V.int (i : Int), V.ref b]) = H2 at sT eT
    have s13 := Same.trans s3 sT
    refine ⟨Tp, _, rfl, SqT.of eT, rfl, _, _, rfl, _, _, rfl, rfl, ?_⟩
    refine ⟨_, rfl, _, rfl, (t : Int), rfl, fun H4 p4 s4 f4 => ?_⟩
    have s14 := Same.trans s13 s4
    refine ⟨b, p4, q, _, rfl, TupAt.keep fb (TK.of s14), f4, osm.each q (mem_at hqi), t_small ht32, _, rfl, ?_⟩
    by_cases hlt : q < (t : Rat)
    · have e : decide (q < (((t : Int)) : Rat)) = true := decide_eq_true hlt
      rw [e]
      have s04 := Same.trans s1 s14
      exact iteT ⟨_, rfl, (by show 1 ≤ sizeLine; decide), fun p5 hp5 => (c.good _ _ (Cf.d_break hqi hlt hb)).end (c.res.keep s04) (Others.of s04) hp5⟩
    · have e : decide (q < (((t : Int)) : Rat)) = false := decide_eq_false hlt
      rw [e]
      refine iteF ⟨_, _, rfl, s14, fun j p hj hp => ?_⟩
      by_cases hji : j = i
      · subst hji
        rw [hqi] at hp
        cases hp
        exact hlt
      · exact hb j p (by omega) hp
  · rintro σ H' ⟨v2, v3, rfl, s3, hb⟩
    refine refused_mk ((c.bad _ (Cf.f_break fun q hq0 => ?_)).from (Same.trans s1 s3))
    obtain ⟨j, hj, e⟩ := List.mem_iff_getElem.mp hq0
    refine hb j q ?_ (by rw [← e]; exact List.getElem?_eq_getElem hj)
    rw [List.length_map, hn]
    exact hj
theorem c_save_profile (T : Txt K mg CR CV CS) : CalM P w K mg base CX0 2 CV "save_profile" ["self"] (spOp0n K CR CV Request.saveProfile) := by
  refine calM_mk T.d_save_profile fun f fd F => F.ok sc_save_profile (by rintro vs H Q E ⟨_, a, b, c, rfl, _⟩; rfl) fun cdv A outer s H vs Q E hr h => ?_
  obtain ⟨_, x, r, B, rfl, c⟩ := h
  obtain ⟨dx, aR, aI, aS, aP, aV, R⟩ := id c.res
  refine ⟨_, (pss_cons (ps_fld (pv 0) (pe_callTy call_list_of (by rfl) T.m_list (by decide +kernel) (pa_cons (pe_fld (pv 0) rfl) pa_nil)) rfl)
    (pss_cons (ps_fld (pv 0) pe_bl rfl)
    (pss_one (ps_ret (pe_lst (pa_cons (pe_callB call_len_seq (by rfl) T.m_len PySem.boot_len (pa_cons (pe_fld (pv 0) rfl) pa_nil)) pa_nil)))))), ?_⟩
  obtain ⟨as, ha, hn, hq, sq⟩ := R.row.sq (K := K)
  refine ⟨_, rfl, rd_row T R ⟨aR, _, rfl, .inl hq, fun l hl => ?_⟩⟩
  have s1 : Same H (upd H l (.lst (as.map V.ref))) := Same.new hl
  have e1 : upd H l (.lst (as.map V.ref)) l = some (.lst (as.map V.ref)) := upd_same
  generalize upd H l (.lst (as.map V.ref)) = H1 at s1 e1
  have R1 := R.keep s1
  have hl1 : RowAt K H1 l r.cells := ⟨as, e1, SeqOf.mono (Q := CellAt K H1) sq fun b z q => CellAt.keep q (TK.of s1)⟩
  refine ⟨_, rfl, x, CV, dx, _, rfl, R1.o, T.clR, T.a_saved_row, len_res, ?_⟩
  rw [put_sav]
  refine ⟨_, rfl, x, CV, dx, _, rfl, upd_same, T.clR, T.a_has_saved, len_res, ?_⟩
  rw [put_has, upd_upd]
  have R2 : Res K CV (upd H1 x (.ins CV dx (resF aR aI aS aP (r.producedCount : Int) true l))) x dx aR aI aS aP l { r with saved := some r.cells } :=
    Res.put (r := { r with saved := some r.cells }) R1.o R1.row R1.inj R1.isum R1.psum fun l' hl' => Option.some.inj hl' ▸ hl1
  obtain ⟨bs, hb, hnb, hqb, sqb⟩ := R2.row.sq (K := K)
  refine ⟨_, rfl, rd_row T R2 ⟨aR, _, rfl, .inl hqb, ?_⟩⟩
  rw [row_len (l := r.cells) hnb]
  exact ⟨(by show 1 ≤ sizeLine; decide), fun p4 hp4 => (c.good _ _ Cf.d_save).end ⟨_, _, _, _, _, _, R2⟩ (Others.put s1) hp4⟩
theorem c_compare_with_saved (T : Txt K mg CR CV CS) : CalM P w K mg base (L2.CX P w) 5 CV "compare_with_saved" ["self"] (spOp0 K CR CV Request.compareWithSaved) := by
  refine calM_mk T.d_compare_with_saved fun f fd F => F.okX sc_compare_with_saved (by rintro vs H Q E ⟨a, b, c, rfl, _⟩; rfl) fun cdv A outer s H vs Q E hr h => ?_
  have G_check_saved := c_check_saved (P := P) (w := w) (base := base) T
  have G_is_nowhere_colder := c_is_nowhere_colder (P := P) (w := w) (base := base) T
  obtain ⟨x, r, B, rfl, c⟩ := h
  obtain ⟨dx, aR, aI, aS, aP, aV, R⟩ := id c.res
  refine ⟨_, (pss_cons (ps_expr (pe_mt0 T.clR G_check_saved hr (by decide) (passE rfl rfl rfl rfl) (pv 0)))
    (pss_one (ps_ret (pe_lst (pa_cons (pe_callTy call_int1 (by rfl) T.m_int (by decide +kernel) (pa_cons (pe_fn G_is_nowhere_colder hr (by decide) rfl (by exact (pa_cons (pe_fld (pv 0) rfl) (pa_cons (pe_fld (pv 0) rfl) pa_nil)))) pa_nil)) (pa_cons (pe_callTy call_int1 (by rfl) T.m_int (by decide +kernel) (pa_cons (pe_fn G_is_nowhere_colder hr (by decide) rfl (by exact (pa_cons (pe_fld (pv 0) rfl) (pa_cons (pe_fld (pv 0) rfl) pa_nil)))) pa_nil)) pa_nil)))))), ?_⟩
  refine ⟨_, rfl, x, dx, _, rfl, R.o, lk_meth (by decide +kernel), x, r, rfl, c.res, fun hs => c.bad _ (Cf.f_cmp hs), fun l hs => ?_⟩
  have ol := c.ok.saved l hs
  have or := c.ok.row
  refine ⟨_, rfl, rd_row T R ⟨_, rfl, rd_sav T R ⟨aR, aV, _, l, rfl, R.row, R.sav l hs, or.most, ol.most, or.tempsSm, ol.tempsSm, fun H1 s1 => .inr ⟨_, rfl, ?_⟩⟩⟩⟩
  have R1 := R.keep s1
  refine ⟨_, rfl, rd_sav T R1 ⟨_, rfl, rd_row T R1 ⟨aV, aR, l, _, rfl, R1.sav l hs, R1.row, ol.most, or.most, ol.tempsSm, or.tempsSm, fun H2 s2 => .inr ⟨_, rfl, ?_⟩⟩⟩⟩
  have s02 := Same.trans s1 s2
  exact ⟨(by show 2 ≤ sizeLine; decide), fun p hp => (c.good _ _ (Cf.d_cmp hs)).end (c.res.keep s02) (Others.of s02) hp⟩
theorem c_average_with_saved (T : Txt K mg CR CV CS) : CalM P w K mg base (L2.CX P w) 5 CV "average_with_saved" ["self"] (spOp0 K CR CV Request.averageWithSaved) := by
  refine calM_mk T.d_average_with_saved fun f fd F => F.okX sc_average_with_saved (by rintro vs H Q E ⟨a, b, c, rfl, _⟩; rfl) fun cdv A outer s H vs Q E hr h => ?_
  have G_check_saved := c_check_saved (P := P) (w := w) (base := base) T
  have G_refuse_if := c_refuse_if (P := P) (w := w) (base := base) T
  have G_capacities_of := c_capacities_of (P := P) (w := w) (base := base) T
  have G_mean_row := c_mean_row (P := P) (w := w) (base := base) T
  have G_check_denominators := c_check_denominators (P := P) (w := w) (base := base) T
  have G_temperatures_of := c_temperatures_of (P := P) (w := w) (base := base) T
  obtain ⟨x, r, B, rfl, c⟩ := h
  obtain ⟨dx, aR, aI, aS, aP, aV, R⟩ := id c.res
  refine ⟨_, (pss_cons (ps_expr (pe_mt0 T.clR G_check_saved hr (by decide) (passE rfl rfl rfl rfl) (pv 0)))
    (pss_cons (ps_expr (pe_fx G_refuse_if hr (by decide) rfl (passE rfl rfl rfl rfl) (by exact (pa_cons (pe_cmpR (op_neD hr.units) (pe_fn G_capacities_of hr (by decide) rfl (by exact (pa_cons (pe_fld (pv 0) rfl) pa_nil))) (pe_fn G_capacities_of hr (by decide) rfl (by exact (pa_cons (pe_fld (pv 0) rfl) pa_nil))) (nomark _)) (pa_cons (pe_gi rfl T.g_OTHER_CELLS) pa_nil)))))
    (pss_cons (ps_set (i := 1) sc_average_with_saved.nd rfl (Or.inl rfl) (pe_fn G_mean_row hr (by decide) rfl (by exact (pa_cons (pe_fld (pv 0) rfl) (pa_cons (pe_fld (pv 0) rfl) pa_nil)))))
    (pss_cons (ps_expr (pe_fx G_check_denominators hr (by decide) rfl (passE rfl rfl rfl rfl) (by exact (pa_cons (pe_fn G_temperatures_of hr (by decide) rfl (by exact (pa_cons (pv 1) pa_nil))) pa_nil))))
    (pss_cons (ps_fld (pv 0) (pv 1) rfl)
    (pss_one (ps_ret (pe_lst (pa_cons (pe_callB call_len_seq (by rfl) T.m_len PySem.boot_len (pa_cons (pe_fld (pv 0) rfl) pa_nil)) pa_nil))))))))), ?_⟩
  refine ⟨_, rfl, x, dx, _, rfl, R.o, lk_meth (by decide +kernel), x, r, rfl, c.res, fun hs => c.bad _ (Cf.f_avg1 hs), fun l hs => ?_⟩
  have ol := c.ok.saved l hs
  have or := c.ok.row
  refine ⟨_, rfl, rd_row T R ⟨aR, _, rfl, R.row, or.most, fun H1 p1 s1 f1 e1 => ?_⟩⟩
  have R1 := R.keep s1
  refine ⟨_, rfl, rd_sav T R1 ⟨aV, l, rfl, R1.sav l hs, ol.most, fun H2 p2 s2 f2 e2 => ?_⟩⟩
  have s02 := Same.trans s1 s2
  refine ⟨_, _, .lst (SqL.of (s2 _ _ e1)) (dp_ints _), .lst (SqL.of e2) (dp_ints _), shaped_ints _, shaped_ints _, ?_⟩
  have ee : PyData.eqv (.list ((caps r.cells).map PyData.int)) (.list ((caps l).map PyData.int)) = decide (caps r.cells = caps l) := eqv_ints _ _
  rw [ee]
  refine ⟨_, _, rfl, fun z => ?_, fun z => ?_⟩
  · have hc : ¬ caps r.cells = caps l := fun e => by rw [decide_eq_true e] at z; cases z
    exact (c.bad _ (Cf.f_avg2 hs hc)).from s02
  have hc : caps r.cells = caps l := by
    by_cases e : caps r.cells = caps l
    · exact e
    · rw [decide_eq_false e] at z
      cases z
  have R2 := R.keep s02
  refine ⟨_, rfl, rd_row T R2 ⟨_, rfl, rd_sav T R2 ⟨aR, aV, _, l, rfl, R2.row, R2.sav l hs, Cf.caps_len hc, or.most, Cf.mean_sm or ol, fun H3 p3 s3 f3 hp3 => ?_⟩⟩⟩
  have hml : (Kqk1.mean r.cells l).length = r.cells.length := mean_len (Cf.caps_len hc)
  refine ⟨_, rfl, p3, _, rfl, hp3, by rw [hml]; exact or.most, fun H4 p4 s4 f4 hp4 => ?_⟩
  have s04 := Same.trans s02 (Same.trans s3 s4)
  refine ⟨p4, _, rfl, hp4, fun hz => (c.bad _ (Cf.f_avg3 c.ok hs hc hz)).from s04, fun hz => ?_⟩
  have R4 := R.keep s04
  refine ⟨_, rfl, _, rfl, x, CV, dx, _, rfl, R4.o, T.clR, T.a_row, len_res, ?_⟩
  rw [put_row]
  have R5 := R4.newRow (hp3.same stab_cell s4)
  obtain ⟨bs, hb, hnb, hqb, sqb⟩ := R5.row.sq (K := K)
  refine ⟨_, rfl, rd_row T R5 ⟨p3, _, rfl, .inl hqb, ?_⟩⟩
  rw [row_len (l := r.cells) (hnb.trans hml)]
  exact ⟨(by show 1 ≤ sizeLine; decide), fun p6 hp6 => (c.good _ _ (Cf.d_avg c.ok hs hc hz)).end ⟨_, _, _, _, _, _, R5⟩ (Others.put s04) hp6⟩
theorem c_reverse (T : Txt K mg CR CV CS) : CalM P w K mg base CX0 2 CV "reverse" ["self"] (spOp0n K CR CV Request.reverse) := by
  refine calM_mk T.d_reverse fun f fd F => F.ok sc_reverse (by rintro vs H Q E ⟨_, a, b, c, rfl, _⟩; rfl) fun cdv A outer s H vs Q E hr h => ?_
  obtain ⟨_, x, r, B, rfl, c⟩ := h
  obtain ⟨dx, aR, aI, aS, aP, aV, R⟩ := id c.res
  refine ⟨_, (pss_cons (ps_fld (pv 0) (pe_revL (pe_fld (pv 0) rfl)) rfl)
    (pss_one (ps_ret (pe_lst (pa_cons (pe_callB call_len_seq (by rfl) T.m_len PySem.boot_len (pa_cons (pe_fld (pv 0) rfl) pa_nil)) pa_nil))))), ?_⟩
  obtain ⟨as, ha, hn, hq, sq⟩ := R.row.sq (K := K)
  refine ⟨_, rfl, rd_row T R ⟨aR, _, rfl, hq, fun p hp => ?_⟩⟩
  rw [← List.map_reverse]
  have s1 : Same H (upd H p (.lst (as.reverse.map V.ref))) := Same.new hp
  have e1 : upd H p (.lst (as.reverse.map V.ref)) p = some (.lst (as.reverse.map V.ref)) := upd_same
  generalize upd H p (.lst (as.reverse.map V.ref)) = H1 at s1 e1
  have R1 := R.keep s1
  have hrow : RowAt K H1 p r.cells.reverse := ⟨_, e1, (SeqOf.mono (Q := CellAt K H1) sq fun b z q => CellAt.keep q (TK.of s1)).reverse⟩
  refine ⟨_, rfl, x, CV, dx, _, rfl, R1.o, T.clR, T.a_row, len_res, ?_⟩
  rw [put_row]
  have R2 := R1.newRow hrow
  obtain ⟨bs, hb, hnb, hqb, sqb⟩ := R2.row.sq (K := K)
  rw [List.length_reverse] at hnb
  refine ⟨_, rfl, rd_row T R2 ⟨p, _, rfl, .inl hqb, ?_⟩⟩
  rw [row_len (l := r.cells) hnb]
  exact ⟨(by show 1 ≤ sizeLine; decide), fun p4 hp4 => (c.good _ _ Cf.d_rev).end ⟨_, _, _, _, _, _, R2⟩ (Others.put s1) hp4⟩
theorem c_excess_heat (T : Txt K mg CR CV CS) : CalM P w K mg base CX0 6 CV "excess_heat" ["self", "temperature"] (spOp1n K CR CV Request.excessHeat) := by
  refine calM_mk T.d_excess_heat fun f fd F => F.ok sc_excess_heat (by rintro vs H Q E ⟨_, a, b, c, d, rfl, _⟩; rfl) fun cdv A outer s H vs Q E hr h => ?_
  have G_capacities_of := c_capacities_of (P := P) (w := w) (base := base) T
  have G_plus := c_plus (P := P) (w := w) (base := base) T
  have G_whole := c_whole (P := P) (w := w) (base := base) T
  have G_heat_of := c_heat_of (P := P) (w := w) (base := base) T
  obtain ⟨_, x, r, B, t, rfl, ht32, c⟩ := h
  obtain ⟨dx, aR, aI, aS, aP, aV, R⟩ := id c.res
  refine ⟨_, (pss_cons (ps_set (i := 2) sc_excess_heat.nd rfl (Or.inl rfl) (pe_callB (cr_sum rfl) (by rfl) T.m_sum (by decide +kernel) (pa_cons (pe_lc (own := [("capacity", 3)]) (g := gName 3) (tt := tYes) rfl sc_excess_heat.nd (pi_list (pe_fn G_capacities_of hr (by decide) rfl (by exact (pa_cons (pe_fld (pv 0) rfl) pa_nil)))) (blkOk_by (own := [("capacity", 3)]) (N := ["self", "temperature", "weight", "capacity"]) (sc := defScope s_excess_heat) (by decide +kernel)) (fun _ _ _ _ _ => (pg_name (i := 3) sc_excess_heat.nd rfl (Or.inl rfl))) (fun _ _ _ _ _ => pts_nil) (fun _ _ _ _ _ => (pe_op op_add (pv 3) pe_int))) pa_nil)))
    (pss_one (ps_ret (pe_op op_cat (pe_lst (pa_cons pe_int pa_nil)) (pe_callTy call_list_of (by rfl) T.m_list (by decide +kernel) (pa_cons (pe_fn G_plus hr (by decide) rfl (by exact (pa_cons (pe_fn G_heat_of hr (by decide) rfl (by exact (pa_cons (pe_fld (pv 0) rfl) pa_nil))) (pa_cons (pe_fn G_whole hr (by decide) rfl (by exact (pa_cons (pe_op op_mulW (pe_un un_neg (pv 1)) (pv 2)) pa_nil))) pa_nil)))) pa_nil)))))), ?_⟩
  have h8 := c.ok.row.most
  have hcl : (caps r.cells).length = r.cells.length := by unfold Cf.caps; rw [List.length_map]
  refine ⟨_, rfl, rd_row T R ⟨aR, _, rfl, R.row, h8, fun H1 p1 s1 f1 e1 => ?_⟩⟩
  have q1 : SqL K H1 p1 ((caps r.cells).map V.int) := SqL.of e1
  refine ⟨p1, rfl, ⟨_, q1⟩, fun D hD => lc_vals (walk_list (K := K) (a := p1) (xs := (caps r.cells).map V.int)) ((r.cells.map fun c => (c.rockCapacity : Int) + 1).map V.int) (by rw [List.length_map, List.length_map, List.length_map, hcl]) hD (size8 (by rw [List.length_map, hcl]; omega)) (fun H2 s2 => s2.seq q1) same_at ?_ ?_⟩
  · rintro i y H2 H3 z hi hz s2 ⟨rfl, hx⟩ Q4 k4
    obtain ⟨n, hn, rfl⟩ := map_at hx
    obtain ⟨cc, hc, rfl⟩ := map_at hn
    obtain ⟨m, hm, rfl⟩ := map_at hz
    obtain ⟨c2, hc2, rfl⟩ := map_at hm
    rw [hc] at hc2
    cases hc2
    exact ⟨rfl, _, rfl, _, _, rfl, rfl, k4 _ (Same.refl _)⟩
  intro H2 s2 e2
  refine ⟨D, _, rfl, SqL.of e2, ?_⟩
  have s02 := Same.trans s1 s2
  refine ⟨(by show 1 ≤ sizeLine; decide), fun p3 hp3 => ?_⟩
  have s3 : Same H2 (upd H2 p3 (.lst [.int 0])) := Same.new hp3
  have e3 : upd H2 p3 (.lst [.int 0]) p3 = some (.lst [.int 0]) := upd_same
  generalize upd H2 p3 (.lst [.int 0]) = H3 at s3 e3
  have s03 := Same.trans s02 s3
  have R3 := R.keep s03
  refine ⟨_, rfl, rd_row T R3 ⟨aR, _, rfl, R3.row, h8, c.ok.row.sm, c.ok.row.heatSm, fun H4 p4 s4 f4 => ?_⟩⟩
  refine ⟨_, rfl, _, rfl, _, rfl, _, _, rfl, rfl, ?_, -(t : Int) * Cf.weight r.cells, rfl, fun H5 p5 s5 f5 => ?_⟩
  · have hw := Cf.weight_le c.ok.row.all
    refine mul_ok (m := 64) (n := 64) ?_ ?_ (by decide) (by decide) (by decide)
    · rw [Int.natAbs_neg, Int.natAbs_natCast]
      exact Nat.lt_trans ht32 (by decide)
    · show (Cf.weight r.cells).natAbs < 2 ^ 64
      omega
  refine ⟨p4, p5, _, _, rfl, f4.keep (TK.of s5), f5, c.ok.row.heatSum, Cf.exc_sm c.ok.row ht32, fun H6 p6 s6 f6 => ?_⟩
  have s46 := Same.trans s4 (Same.trans s5 s6)
  refine cat_fr (K := K) (s46 _ _ e3) (by show 1 ≤ 100; decide) f6 fun H7 p7 s7 hp7 => ?_
  have s07 := Same.trans s03 (Same.trans s46 s7)
  have k := c.good _ _ (Cf.d_exc (t := t))
  unfold Cf.excess at k
  rw [Cf.total_eq] at k
  exact k.end (c.res.keep s07) (Others.of s07) hp7
theorem c_summary (T : Txt K mg CR CV CS) : CalM P w K mg base CX0 2 CV "summary" ["self"] (spOp0n K CR CV Request.summary) := by
  refine calM_mk T.d_summary fun f fd F => F.ok sc_summary (by rintro vs H Q E ⟨_, a, b, c, rfl, _⟩; rfl) fun cdv A outer s H vs Q E hr h => ?_
  obtain ⟨_, x, r, B, rfl, c⟩ := h
  obtain ⟨dx, aR, aI, aS, aP, aV, R⟩ := id c.res
  refine ⟨_, (pss_one (ps_ret (pe_op op_cat (pe_lst (pa_cons (pe_callB call_len_seq (by rfl) T.m_len PySem.boot_len (pa_cons (pe_fld (pv 0) rfl) pa_nil)) (pa_cons (pe_fld (pv 0) rfl) (pa_cons (pe_callTy call_int1 (by rfl) T.m_int (by decide +kernel) (pa_cons (pe_fld (pv 0) rfl) pa_nil)) pa_nil)))) (pe_callTy call_list_of (by rfl) T.m_list (by decide +kernel) (pa_cons (pe_fld (pv 0) rfl) pa_nil))))), ?_⟩
  obtain ⟨as, ha, hn, hq, sq⟩ := R.row.sq (K := K)
  refine ⟨_, rfl, rd_row T R ⟨aR, _, rfl, .inl hq, ?_⟩⟩
  rw [row_len (l := r.cells) hn]
  refine ⟨_, rfl, rd_cnt T R ⟨_, rfl, rd_has T R (.inr ⟨_, rfl, (by show 3 ≤ sizeLine; decide), fun p1 hp1 => ?_⟩)⟩⟩
  have e1 := upd_same (H := H) (a := p1) (o := .lst [V.int (r.cells.length : Int), V.int (r.producedCount : Int), V.int (if r.saved.isSome = true then 1 else 0)])
  have s1 := Same.new (o := .lst [V.int (r.cells.length : Int), V.int (r.producedCount : Int), V.int (if r.saved.isSome = true then 1 else 0)]) hp1
  generalize upd H p1 (.lst [V.int (r.cells.length : Int), V.int (r.producedCount : Int), V.int (if r.saved.isSome = true then 1 else 0)]) = H1 at s1 e1
  have R1 := R.keep s1
  refine ⟨_, rfl, rd_inj T R1 (cat_fr (K := K) e1 (by show 3 ≤ 100; decide) R1.inj fun H2 p2 s2 hp2 => ?_)⟩
  have s02 := Same.trans s1 s2
  exact (c.good _ _ Cf.d_sum).end (c.res.keep s02) (Others.of s02) hp2
end
end L2.CfX

end
section
/-! The session: how it lies in the heap, and its perform. -/
namespace L2.CfX
open PySem PySem.Spec PyProof.Rows L2
open Kqk1 (Cell Reservoir Request Result)
open Cf (Sm Bd CellSm RowSm StepsSm SumSm RowOk advN outs temps caps nowhere small sumR moved Ok Fails Does gained b01)
theorem iT {c : Bool} {A B : Prop} (hc : c = true) (h : A) : if c = true then A else B := by
  rw [if_pos hc]
  exact h
theorem iF {c : Bool} {A B : Prop} (hc : c = false) (h : B) : if c = true then A else B := by
  rw [hc, if_neg Bool.false_ne_true]
  exact h
theorem nat_of {x : Addr} {z : Int} (h : 0 ≤ z ∧ z < 2 ^ 32) : 0 ≤ z ∧ z.toNat < 2 ^ 32 ∧ (V.ref x :: [V.int z] ++ [] : List V) = [V.ref x, V.int ((z.toNat : Nat) : Int)] := by
  refine ⟨h.1, by omega, ?_⟩
  rw [Int.toNat_of_nonneg h.1] <;> rfl
theorem two_of {x : Addr} {z y : Int} (ez : (V.ref x :: [V.int z] ++ [] : List V) = [V.ref x, V.int ((z.toNat : Nat) : Int)]) (ey : (V.ref x :: [V.int y] ++ [] : List V) = [V.ref x, V.int ((y.toNat : Nat) : Int)]) :
    (V.ref x :: ([V.int z, V.int y] ++ []) : List V) = [V.ref x, V.int ((z.toNat : Nat) : Int), V.int ((y.toNat : Nat) : Int)] := by
  have e1 := (List.cons.inj (List.cons.inj ez).2).1
  have e2 := (List.cons.inj (List.cons.inj ey).2).1
  show [V.ref x, V.int z, V.int y] = _
  rw [← e1, ← e2]
/-- a call from lo to hi, handed on to the reservoir -/
def spPerf (K : PySem.W.Frag) (CR CV : Addr) (lo hi : Int) : Sp := fun vs H Q E => ∃ x r B p a l q, vs = [.ref x, .int p, .ref a] ∧ SqL K H a (l.map V.int) ∧ lo ≤ p ∧ p ≤ hi ∧ Kqk1Neutral.requestOf [p :: l] = some q ∧ (∀ z ∈ l, 0 ≤ z ∧ z < 2 ^ 32) ∧ Core K CR CV H Q E x r B q
section
variable {P : Program} {w : World} {K : PySem.W.Frag} {mg : Str → Option Value} {base : Heap} {CR CV CS : Addr}
theorem c_perform_setting (T : Txt K mg CR CV CS) : Cal P w K mg base (L2.CX P w) 10 "perform_setting" ["reservoir", "call", "arguments"] (spPerf K CR CV 1 4) := by
  refine cal_mk T.d_perform_setting fun f fd F => F.okX sc_perform_setting (by rintro vs H Q E ⟨a, b, c, d, e, g, h, rfl, _⟩; rfl) fun cdv A outer s H vs Q E hr h => ?_
  have G_set_rock_capacity := c_set_rock_capacity (P := P) (w := w) (base := base) T
  have G_set_temperature := c_set_temperature (P := P) (w := w) (base := base) T
  have G_set_all_temperatures := c_set_all_temperatures (P := P) (w := w) (base := base) T
  have G_set_injection_temperature := c_set_injection_temperature (P := P) (w := w) (base := base) T
  obtain ⟨x, r, B, p, a, l, q, rfl, hl, h0, h1, hreq, hrg, c⟩ := h
  obtain ⟨dx, aR, aI, aS, aP, aV, R⟩ := id c.res
  refine ⟨_, (pss_cons (ps_if (pt_cmpR op_eq (pv 1) pe_int (nomark _)) (pss_one (ps_ret (pe_mt T.clR G_set_rock_capacity hr (by decide) (passE rfl rfl rfl rfl) (pv 0) (by exact (pa_cons (pe_ix (r := rIxL K) ix_list (pv 2) pe_int (fun _ _ => rfl)) (pa_cons (pe_ix (r := rIxL K) ix_list (pv 2) pe_int (fun _ _ => rfl)) pa_nil)))))) pss_nil)
    (pss_cons (ps_if (pt_cmpR op_eq (pv 1) pe_int (nomark _)) (pss_one (ps_ret (pe_mt T.clR G_set_temperature hr (by decide) (passE rfl rfl rfl rfl) (pv 0) (by exact (pa_cons (pe_ix (r := rIxL K) ix_list (pv 2) pe_int (fun _ _ => rfl)) (pa_cons (pe_ix (r := rIxL K) ix_list (pv 2) pe_int (fun _ _ => rfl)) pa_nil)))))) pss_nil)
    (pss_cons (ps_if (pt_cmpR op_eq (pv 1) pe_int (nomark _)) (pss_one (ps_ret (pe_mt T.clR G_set_all_temperatures hr (by decide) (passE rfl rfl rfl rfl) (pv 0) (by exact (pa_cons (pe_ix (r := rIxL K) ix_list (pv 2) pe_int (fun _ _ => rfl)) pa_nil))))) pss_nil)
    (pss_one (ps_ret (pe_mt T.clR G_set_injection_temperature hr (by decide) (passE rfl rfl rfl rfl) (pv 0) (by exact (pa_cons (pe_ix (r := rIxL K) ix_list (pv 2) pe_int (fun _ _ => rfl)) pa_nil)))))))), ?_⟩
  have hp : p = 1 ∨ p = 2 ∨ p = 3 ∨ p = 4 := by omega
  rcases hp with rfl | rfl | rfl | rfl
  · obtain ⟨z, y, rfl, rfl⟩ := Cf.req_1 hreq
    obtain ⟨z0, z1, ez⟩ := nat_of (hrg z (by simp))
    obtain ⟨y0, y1, ey⟩ := nat_of (hrg y (by simp))
    exact ⟨_, rfl, rfl, _, rfl, iT (by decide) ⟨_, rfl, x, dx, _, rfl, R.o, lk_meth (by decide +kernel), _, rfl, a, _, _, _, rfl, rfl, hl, rfl, _, rfl, a, _, _, _, rfl, rfl, hl, rfl, x, r, B, z.toNat, y.toNat, two_of ez ey, z1, y1, c⟩⟩
  · obtain ⟨z, y, rfl, rfl⟩ := Cf.req_2 hreq
    obtain ⟨z0, z1, ez⟩ := nat_of (hrg z (by simp))
    obtain ⟨y0, y1, ey⟩ := nat_of (hrg y (by simp))
    exact ⟨_, rfl, rfl, _, rfl, iF (by decide) ⟨_, rfl, rfl, _, rfl, iT (by decide) ⟨_, rfl, x, dx, _, rfl, R.o, lk_meth (by decide +kernel), _, rfl, a, _, _, _, rfl, rfl, hl, rfl, _, rfl, a, _, _, _, rfl, rfl, hl, rfl, x, r, B, z.toNat, y.toNat, two_of ez ey, z1, y1, c⟩⟩⟩
  · obtain ⟨z, rfl, rfl⟩ := Cf.req_3 hreq
    obtain ⟨z0, z1, ez⟩ := nat_of (hrg z (by simp))
    exact ⟨_, rfl, rfl, _, rfl, iF (by decide) ⟨_, rfl, rfl, _, rfl, iF (by decide) ⟨_, rfl, rfl, _, rfl, iT (by decide) ⟨_, rfl, x, dx, _, rfl, R.o, lk_meth (by decide +kernel), _, rfl, a, _, _, _, rfl, rfl, hl, rfl, x, r, B, z.toNat, ez, z1, c⟩⟩⟩⟩
  · obtain ⟨z, rfl, rfl⟩ := Cf.req_4 hreq
    obtain ⟨z0, z1, ez⟩ := nat_of (hrg z (by simp))
    exact ⟨_, rfl, rfl, _, rfl, iF (by decide) ⟨_, rfl, rfl, _, rfl, iF (by decide) ⟨_, rfl, rfl, _, rfl, iF (by decide) ⟨_, rfl, x, dx, _, rfl, R.o, lk_meth (by decide +kernel), _, rfl, a, _, _, _, rfl, rfl, hl, rfl, x, r, B, z.toNat, ez, z1, c⟩⟩⟩⟩
theorem c_perform_steps (T : Txt K mg CR CV CS) : Cal P w K mg base (L2.CX P w) 10 "perform_steps" ["reservoir", "call", "arguments"] (spPerf K CR CV 5 9) := by
  refine cal_mk T.d_perform_steps fun f fd F => F.okX sc_perform_steps (by rintro vs H Q E ⟨a, b, c, d, e, g, h, rfl, _⟩; rfl) fun cdv A outer s H vs Q E hr h => ?_
  have G_advance := c_advance (P := P) (w := w) (base := base) T
  have G_advance_many := c_advance_many (P := P) (w := w) (base := base) T
  have G_equilibrate := c_equilibrate (P := P) (w := w) (base := base) T
  have G_forecast := c_forecast (P := P) (w := w) (base := base) T
  have G_get_cell := c_get_cell (P := P) (w := w) (base := base) T
  obtain ⟨x, r, B, p, a, l, q, rfl, hl, h0, h1, hreq, hrg, c⟩ := h
  obtain ⟨dx, aR, aI, aS, aP, aV, R⟩ := id c.res
  refine ⟨_, (pss_cons (ps_if (pt_cmpR op_eq (pv 1) pe_int (nomark _)) (pss_one (ps_ret (pe_mt0 T.clR G_advance hr (by decide) (passE rfl rfl rfl rfl) (pv 0)))) pss_nil)
    (pss_cons (ps_if (pt_cmpR op_eq (pv 1) pe_int (nomark _)) (pss_one (ps_ret (pe_mt T.clR G_advance_many hr (by decide) (passE rfl rfl rfl rfl) (pv 0) (by exact (pa_cons (pe_ix (r := rIxL K) ix_list (pv 2) pe_int (fun _ _ => rfl)) pa_nil))))) pss_nil)
    (pss_cons (ps_if (pt_cmpR op_eq (pv 1) pe_int (nomark _)) (pss_one (ps_ret (pe_mt0 T.clR G_equilibrate hr (by decide) (passE rfl rfl rfl rfl) (pv 0)))) pss_nil)
    (pss_cons (ps_if (pt_cmpR op_eq (pv 1) pe_int (nomark _)) (pss_one (ps_ret (pe_mt T.clR G_forecast hr (by decide) (passE rfl rfl rfl rfl) (pv 0) (by exact (pa_cons (pe_ix (r := rIxL K) ix_list (pv 2) pe_int (fun _ _ => rfl)) pa_nil))))) pss_nil)
    (pss_one (ps_ret (pe_mt T.clR G_get_cell hr (by decide) (passE rfl rfl rfl rfl) (pv 0) (by exact (pa_cons (pe_ix (r := rIxL K) ix_list (pv 2) pe_int (fun _ _ => rfl)) pa_nil))))))))), ?_⟩
  have hp : p = 5 ∨ p = 6 ∨ p = 7 ∨ p = 8 ∨ p = 9 := by omega
  rcases hp with rfl | rfl | rfl | rfl | rfl
  · obtain ⟨rfl, rfl⟩ := Cf.req_5 hreq
    exact ⟨_, rfl, rfl, _, rfl, iT (by decide) ⟨_, rfl, x, dx, _, rfl, R.o, lk_meth (by decide +kernel), x, r, B, rfl, c⟩⟩
  · obtain ⟨z, rfl, rfl⟩ := Cf.req_6 hreq
    obtain ⟨z0, z1, ez⟩ := nat_of (hrg z (by simp))
    exact ⟨_, rfl, rfl, _, rfl, iF (by decide) ⟨_, rfl, rfl, _, rfl, iT (by decide) ⟨_, rfl, x, dx, _, rfl, R.o, lk_meth (by decide +kernel), _, rfl, a, _, _, _, rfl, rfl, hl, rfl, x, r, B, z.toNat, ez, z1, c⟩⟩⟩
  · obtain ⟨rfl, rfl⟩ := Cf.req_7 hreq
    exact ⟨_, rfl, rfl, _, rfl, iF (by decide) ⟨_, rfl, rfl, _, rfl, iF (by decide) ⟨_, rfl, rfl, _, rfl, iT (by decide) ⟨_, rfl, x, dx, _, rfl, R.o, lk_meth (by decide +kernel), x, r, B, rfl, c⟩⟩⟩⟩
  · obtain ⟨z, rfl, rfl⟩ := Cf.req_8 hreq
    obtain ⟨z0, z1, ez⟩ := nat_of (hrg z (by simp))
    exact ⟨_, rfl, rfl, _, rfl, iF (by decide) ⟨_, rfl, rfl, _, rfl, iF (by decide) ⟨_, rfl, rfl, _, rfl, iF (by decide) ⟨_, rfl, rfl, _, rfl, iT (by decide) ⟨_, rfl, x, dx, _, rfl, R.o, lk_meth (by decide +kernel), _, rfl, a, _, _, _, rfl, rfl, hl, rfl, x, r, B, z.toNat, ez, z1, c⟩⟩⟩⟩⟩
  · obtain ⟨z, rfl, rfl⟩ := Cf.req_9 hreq
    obtain ⟨z0, z1, ez⟩ := nat_of (hrg z (by simp))
    exact ⟨_, rfl, rfl, _, rfl, iF (by decide) ⟨_, rfl, rfl, _, rfl, iF (by decide) ⟨_, rfl, rfl, _, rfl, iF (by decide) ⟨_, rfl, rfl, _, rfl, iF (by decide) ⟨_, rfl, x, dx, _, rfl, R.o, lk_meth (by decide +kernel), _, rfl, a, _, _, _, rfl, rfl, hl, rfl, x, r, B, z.toNat, ez, z1, c⟩⟩⟩⟩⟩
theorem c_perform_report (T : Txt K mg CR CV CS) : Cal P w K mg base (L2.CX P w) 10 "perform_report" ["reservoir", "call", "arguments"] (spPerf K CR CV 10 15) := by
  refine cal_mk T.d_perform_report fun f fd F => F.okX sc_perform_report (by rintro vs H Q E ⟨a, b, c, d, e, g, h, rfl, _⟩; rfl) fun cdv A outer s H vs Q E hr h => ?_
  have G_total_heat := c_total_heat (P := P) (w := w) (base := base) T
  have G_balance := c_balance (P := P) (w := w) (base := base) T
  have G_hottest := c_hottest (P := P) (w := w) (base := base) T
  have G_coldest := c_coldest (P := P) (w := w) (base := base) T
  have G_breakthrough := c_breakthrough (P := P) (w := w) (base := base) T
  have G_save_profile := c_save_profile (P := P) (w := w) (base := base) T
  obtain ⟨x, r, B, p, a, l, q, rfl, hl, h0, h1, hreq, hrg, c⟩ := h
  obtain ⟨dx, aR, aI, aS, aP, aV, R⟩ := id c.res
  refine ⟨_, (pss_cons (ps_if (pt_cmpR op_eq (pv 1) pe_int (nomark _)) (pss_one (ps_ret (pe_mt0 T.clR G_total_heat hr (by decide) pass0 (pv 0)))) pss_nil)
    (pss_cons (ps_if (pt_cmpR op_eq (pv 1) pe_int (nomark _)) (pss_one (ps_ret (pe_mt0 T.clR G_balance hr (by decide) pass0 (pv 0)))) pss_nil)
    (pss_cons (ps_if (pt_cmpR op_eq (pv 1) pe_int (nomark _)) (pss_one (ps_ret (pe_mt0 T.clR G_hottest hr (by decide) pass0 (pv 0)))) pss_nil)
    (pss_cons (ps_if (pt_cmpR op_eq (pv 1) pe_int (nomark _)) (pss_one (ps_ret (pe_mt0 T.clR G_coldest hr (by decide) pass0 (pv 0)))) pss_nil)
    (pss_cons (ps_if (pt_cmpR op_eq (pv 1) pe_int (nomark _)) (pss_one (ps_ret (pe_mt T.clR G_breakthrough hr (by decide) (passE rfl rfl rfl rfl) (pv 0) (by exact (pa_cons (pe_ix (r := rIxL K) ix_list (pv 2) pe_int (fun _ _ => rfl)) pa_nil))))) pss_nil)
    (pss_one (ps_ret (pe_mt0 T.clR G_save_profile hr (by decide) pass0 (pv 0))))))))), ?_⟩
  have hp : p = 10 ∨ p = 11 ∨ p = 12 ∨ p = 13 ∨ p = 14 ∨ p = 15 := by omega
  rcases hp with rfl | rfl | rfl | rfl | rfl | rfl
  · obtain ⟨rfl, rfl⟩ := Cf.req_10 hreq
    exact ⟨_, rfl, rfl, _, rfl, iT (by decide) ⟨_, rfl, x, dx, _, rfl, R.o, lk_meth (by decide +kernel), E, x, r, B, rfl, c⟩⟩
  · obtain ⟨rfl, rfl⟩ := Cf.req_11 hreq
    exact ⟨_, rfl, rfl, _, rfl, iF (by decide) ⟨_, rfl, rfl, _, rfl, iT (by decide) ⟨_, rfl, x, dx, _, rfl, R.o, lk_meth (by decide +kernel), E, x, r, B, rfl, c⟩⟩⟩
  · obtain ⟨rfl, rfl⟩ := Cf.req_12 hreq
    exact ⟨_, rfl, rfl, _, rfl, iF (by decide) ⟨_, rfl, rfl, _, rfl, iF (by decide) ⟨_, rfl, rfl, _, rfl, iT (by decide) ⟨_, rfl, x, dx, _, rfl, R.o, lk_meth (by decide +kernel), E, x, r, B, rfl, c⟩⟩⟩⟩
  · obtain ⟨rfl, rfl⟩ := Cf.req_13 hreq
    exact ⟨_, rfl, rfl, _, rfl, iF (by decide) ⟨_, rfl, rfl, _, rfl, iF (by decide) ⟨_, rfl, rfl, _, rfl, iF (by decide) ⟨_, rfl, rfl, _, rfl, iT (by decide) ⟨_, rfl, x, dx, _, rfl, R.o, lk_meth (by decide +kernel), E, x, r, B, rfl, c⟩⟩⟩⟩⟩
  · obtain ⟨z, rfl, rfl⟩ := Cf.req_14 hreq
    obtain ⟨z0, z1, ez⟩ := nat_of (hrg z (by simp))
    exact ⟨_, rfl, rfl, _, rfl, iF (by decide) ⟨_, rfl, rfl, _, rfl, iF (by decide) ⟨_, rfl, rfl, _, rfl, iF (by decide) ⟨_, rfl, rfl, _, rfl, iF (by decide) ⟨_, rfl, rfl, _, rfl, iT (by decide) ⟨_, rfl, x, dx, _, rfl, R.o, lk_meth (by decide +kernel), _, rfl, a, _, _, _, rfl, rfl, hl, rfl, x, r, B, z.toNat, ez, z1, c⟩⟩⟩⟩⟩⟩
  · obtain ⟨rfl, rfl⟩ := Cf.req_15 hreq
    exact ⟨_, rfl, rfl, _, rfl, iF (by decide) ⟨_, rfl, rfl, _, rfl, iF (by decide) ⟨_, rfl, rfl, _, rfl, iF (by decide) ⟨_, rfl, rfl, _, rfl, iF (by decide) ⟨_, rfl, rfl, _, rfl, iF (by decide) ⟨_, rfl, x, dx, _, rfl, R.o, lk_meth (by decide +kernel), E, x, r, B, rfl, c⟩⟩⟩⟩⟩⟩
theorem c_perform_profile (T : Txt K mg CR CV CS) : Cal P w K mg base (L2.CX P w) 10 "perform_profile" ["reservoir", "call", "arguments"] (spPerf K CR CV 16 20) := by
  refine cal_mk T.d_perform_profile fun f fd F => F.okX sc_perform_profile (by rintro vs H Q E ⟨a, b, c, d, e, g, h, rfl, _⟩; rfl) fun cdv A outer s H vs Q E hr h => ?_
  have G_compare_with_saved := c_compare_with_saved (P := P) (w := w) (base := base) T
  have G_average_with_saved := c_average_with_saved (P := P) (w := w) (base := base) T
  have G_reverse := c_reverse (P := P) (w := w) (base := base) T
  have G_excess_heat := c_excess_heat (P := P) (w := w) (base := base) T
  have G_summary := c_summary (P := P) (w := w) (base := base) T
  obtain ⟨x, r, B, p, a, l, q, rfl, hl, h0, h1, hreq, hrg, c⟩ := h
  obtain ⟨dx, aR, aI, aS, aP, aV, R⟩ := id c.res
  refine ⟨_, (pss_cons (ps_if (pt_cmpR op_eq (pv 1) pe_int (nomark _)) (pss_one (ps_ret (pe_mt0 T.clR G_compare_with_saved hr (by decide) (passE rfl rfl rfl rfl) (pv 0)))) pss_nil)
    (pss_cons (ps_if (pt_cmpR op_eq (pv 1) pe_int (nomark _)) (pss_one (ps_ret (pe_mt0 T.clR G_average_with_saved hr (by decide) (passE rfl rfl rfl rfl) (pv 0)))) pss_nil)
    (pss_cons (ps_if (pt_cmpR op_eq (pv 1) pe_int (nomark _)) (pss_one (ps_ret (pe_mt0 T.clR G_reverse hr (by decide) pass0 (pv 0)))) pss_nil)
    (pss_cons (ps_if (pt_cmpR op_eq (pv 1) pe_int (nomark _)) (pss_one (ps_ret (pe_mt T.clR G_excess_heat hr (by decide) pass0 (pv 0) (by exact (pa_cons (pe_ix (r := rIxL K) ix_list (pv 2) pe_int (fun _ _ => rfl)) pa_nil))))) pss_nil)
    (pss_one (ps_ret (pe_mt0 T.clR G_summary hr (by decide) pass0 (pv 0)))))))), ?_⟩
  have hp : p = 16 ∨ p = 17 ∨ p = 18 ∨ p = 19 ∨ p = 20 := by omega
  rcases hp with rfl | rfl | rfl | rfl | rfl
  · obtain ⟨rfl, rfl⟩ := Cf.req_16 hreq
    exact ⟨_, rfl, rfl, _, rfl, iT (by decide) ⟨_, rfl, x, dx, _, rfl, R.o, lk_meth (by decide +kernel), x, r, B, rfl, c⟩⟩
  · obtain ⟨rfl, rfl⟩ := Cf.req_17 hreq
    exact ⟨_, rfl, rfl, _, rfl, iF (by decide) ⟨_, rfl, rfl, _, rfl, iT (by decide) ⟨_, rfl, x, dx, _, rfl, R.o, lk_meth (by decide +kernel), x, r, B, rfl, c⟩⟩⟩
  · obtain ⟨rfl, rfl⟩ := Cf.req_18 hreq
    exact ⟨_, rfl, rfl, _, rfl, iF (by decide) ⟨_, rfl, rfl, _, rfl, iF (by decide) ⟨_, rfl, rfl, _, rfl, iT (by decide) ⟨_, rfl, x, dx, _, rfl, R.o, lk_meth (by decide +kernel), E, x, r, B, rfl, c⟩⟩⟩⟩
  · obtain ⟨z, rfl, rfl⟩ := Cf.req_19 hreq
    obtain ⟨z0, z1, ez⟩ := nat_of (hrg z (by simp))
    exact ⟨_, rfl, rfl, _, rfl, iF (by decide) ⟨_, rfl, rfl, _, rfl, iF (by decide) ⟨_, rfl, rfl, _, rfl, iF (by decide) ⟨_, rfl, rfl, _, rfl, iT (by decide) ⟨_, rfl, x, dx, _, rfl, R.o, lk_meth (by decide +kernel), _, rfl, a, _, _, _, rfl, rfl, hl, rfl, E, x, r, B, z.toNat, ez, z1, c⟩⟩⟩⟩⟩
  · obtain ⟨rfl, rfl⟩ := Cf.req_20 hreq
    exact ⟨_, rfl, rfl, _, rfl, iF (by decide) ⟨_, rfl, rfl, _, rfl, iF (by decide) ⟨_, rfl, rfl, _, rfl, iF (by decide) ⟨_, rfl, rfl, _, rfl, iF (by decide) ⟨_, rfl, x, dx, _, rfl, R.o, lk_meth (by decide +kernel), E, x, r, B, rfl, c⟩⟩⟩⟩⟩
end
end L2.CfX

end
section
/-! The session: its __init__, perform, answer; the split of the calls; answers. -/
namespace L2.CfX
open PySem PySem.Spec PyProof.Rows L2
open Kqk1 (Cell Reservoir Request Result)
open Cf (Sm Bd CellSm RowSm StepsSm SumSm RowOk advN outs temps caps nowhere small sumR moved Ok Fails Does gained b01)
/-! ### a session in the heap -/
def sesF (b : Bool) (x : Addr) : List (Str × V) := [("has_reservoir", .bl b), ("reservoir", .ref x)]
section
variable {b c : Bool} {x y : Addr}
theorem lk_hasr : (sesF b x).lookup ("has_reservoir" : Str) = some (.bl b) := lk_here
theorem lk_res : (sesF b x).lookup ("reservoir" : Str) = some (.ref x) := (lk_past (by decide +kernel)).trans lk_here
theorem lk_smeth {k : Str} (h : (!(k == "has_reservoir") && !(k == "reservoir")) = true) : (sesF b x).lookup k = none := by
  simp only [Bool.and_eq_true, Bool.not_eq_true'] at h
  exact (lk_past h.1).trans ((lk_past h.2).trans rfl)
theorem put_hasr : putF "has_reservoir" (.bl c) (sesF b x) = sesF c x := put_here
theorem put_res : putF "reservoir" (.ref y) (sesF b x) = sesF b y := (put_past (by decide +kernel)).trans (congrArg _ put_here)
theorem put_ses : putF "reservoir" (.ref x) (putF "has_reservoir" (.bl b) []) = sesF b x := (put_past (by decide +kernel)).trans rfl
theorem len_ses : (sesF b x).length < 1000 := by show 2 < 1000; decide
end
def SesAt (K : PySem.W.Frag) (CV CS : Addr) (H : Hp) (s : Addr) (st : Option Reservoir) : Prop := ∃ ds x, H s = some (.ins CS ds (sesF st.isSome x)) ∧ ∀ r, st = some r → ResAt K CV H x r
/-- all but instances stays -/
def KeepL (H H' : Hp) : Prop := ∀ b o, H b = some o → (∀ C d fs, o ≠ .ins C d fs) → H' b = some o
section
variable {K : PySem.W.Frag} {CV CS : Addr} {H H' H1 : Hp} {s x y dx ds p : Addr} {r : Reservoir} {st : Option Reservoir} {fs : List (Str × V)} {u : HO} {b : Bool}
theorem KeepL.of (h : Same H H') : KeepL H H' := fun b o e _ => h b o e
theorem KeepL.trans (h : KeepL H H1) (k : KeepL H1 H') : KeepL H H' := fun b o e n => k b o (h b o e n) n
theorem KeepL.others (h : Others H H' x) (hx : H x = some (.ins CV dx fs)) : KeepL H H' := fun b o e n => h b o e fun z => by
  subst z
  rw [hx] at e
  exact n _ _ _ (Option.some.inj e).symm
theorem KeepL.put (hx : H x = some (.ins CV dx fs)) : KeepL H (upd H x u) := KeepL.others (Others.put (Same.refl H)) hx
theorem KeepL.tk (h : KeepL H H') : TK H H' := fun b xs e => h b _ e fun _ _ _ z => nomatch z
theorem ses_ne (hs : H s = some (.ins CS ds (sesF b y))) (R : ResAt K CV H x r) : x ≠ s := by
  obtain ⟨dx, aR, aI, aS, aP, aV, R⟩ := R
  rintro rfl
  have e := R.o
  rw [hs] at e
  have e2 := Option.some.inj e
  injection e2 with _ _ e3
  have e4 := congrArg List.length e3
  have e5 : 2 = 7 := e4
  omega
/-- what stands at s, no part of the reservoir, changes -/
theorem ResAt.off (R : ResAt K CV H x r) (n : x ≠ s) (hs : H s = some (.ins CS ds fs)) : ResAt K CV (upd H s u) x r := by
  obtain ⟨dx, aR, aI, aS, aP, aV, R⟩ := R
  exact ⟨dx, aR, aI, aS, aP, aV, by rw [upd_ne n]; exact R.o, row_put R.row hs, fr_put R.inj hs, fr_put R.isum hs, fr_put R.psum hs, fun l hl => row_put (R.sav l hl) hs⟩
theorem SesAt.keep (h : SesAt K CV CS H s st) (k : Same H H') : SesAt K CV CS H' s st := by
  obtain ⟨ds, x, e, R⟩ := h
  exact ⟨ds, x, k _ _ e, fun r hr => (R r hr).keep k⟩
/-- a list of whole numbers is no row -/
theorem row_off {l : List Cell} {g : Addr} {ns : List Int} (h : RowAt K H p l) (h1 : 1 ≤ l.length) (hg : H g = some (.lst (ns.map V.int))) : RowAt K (upd H g u) p l := by
  refine h.keep stab_cell (fun o e => ?_) (TK.lst hg)
  obtain ⟨as, ha, sq⟩ := id h
  have n : p ≠ g := by
    rintro rfl
    rw [hg] at ha
    have e2 := HO.lst.inj (Option.some.inj ha)
    have hl := sq.len
    cases ns with
    | nil =>
      have := congrArg List.length e2
      simp at this
      omega
    | cons n ns => exact ints_ne_refs e2
  rw [upd_ne n]
  exact e
theorem SesAt.list {B : Nat} {g : Addr} {ns ms : List Int} (h : SesAt K CV CS H s st) (o : ∀ r, st = some r → Ok B r) (hg : H g = some (.lst (ns.map V.int))) : SesAt K CV CS (upd H g (.lst (ms.map V.int))) s st := by
  obtain ⟨ds, x, e, R⟩ := h
  have n1 : s ≠ g := by
    rintro rfl
    rw [e] at hg
    cases hg
  refine ⟨ds, x, by rw [upd_ne n1]; exact e, fun r hr => ?_⟩
  obtain ⟨dx, aR, aI, aS, aP, aV, R⟩ := R r hr
  have ok := o r hr
  have n2 : x ≠ g := by
    rintro rfl
    have e2 := R.o
    rw [hg] at e2
    cases e2
  have t : TK H (upd H g (.lst (ms.map V.int))) := TK.lst hg
  exact ⟨dx, aR, aI, aS, aP, aV, by rw [upd_ne n2]; exact R.o, row_off R.row ok.row.one hg, R.inj.keep t, R.isum.keep t, R.psum.keep t, fun l hl => row_off (R.sav l hl) (ok.saved l hl).one hg⟩
end
/-! ### the promises -/
def spSesInit (K : PySem.W.Frag) (CV CS : Addr) : Sp := fun vs H Q _ => ∃ s ds, vs = [.ref s] ∧ H s = some (.ins CS ds []) ∧ ∀ H', SesAt K CV CS H' s none → Others H H' s → Q .non H'
def spPerform (K : PySem.W.Frag) (CR CV CS : Addr) : Sp := fun vs H Q E => ∃ s st B p a l q, vs = [.ref s, .int p, .ref a] ∧ SqL K H a (l.map V.int) ∧ 0 ≤ p ∧ p ≤ 20 ∧ Kqk1Neutral.requestOf [p :: l] = some q ∧ (∀ z ∈ l, 0 ≤ z ∧ z < 2 ^ 32) ∧
  SesAt K CV CS H s st ∧ (∀ r, st = some r → Ok B r) ∧ B ≤ 2 ^ 39 ∧ (∀ c, Kqk1.step st q = (st, .value c) → Ref CR E H c) ∧
  ∀ H' pp, H pp = none → H' pp = some (.lst ((Kqk1Neutral.fields (Kqk1.step st q).2).map V.int)) → SesAt K CV CS H' s (Kqk1.step st q).1 → KeepL H H' → Q (.ref pp) H'
def spAnswer (K : PySem.W.Frag) (CV CS : Addr) : Sp := fun vs H Q _ => ∃ s st B p a l q, vs = [.ref s, .int p, .ref a] ∧ SqL K H a (l.map V.int) ∧ 0 ≤ p ∧ p ≤ 20 ∧ Kqk1Neutral.requestOf [p :: l] = some q ∧ (∀ z ∈ l, 0 ≤ z ∧ z < 2 ^ 32) ∧
  SesAt K CV CS H s st ∧ (∀ r, st = some r → Ok B r) ∧ B ≤ 2 ^ 39 ∧
  ∀ H' pp, H pp = none → H' pp = some (.lst ((Kqk1Neutral.fields (Kqk1.step st q).2).map V.int)) → SesAt K CV CS H' s (Kqk1.step st q).1 → KeepL H H' → Q (.ref pp) H'
/-! ### a method's call within a try -/
def tMtS (C : Addr) (m : Str) (sp : Sp) (E : L2.St → XK) (ta : TE) (t : TA) : TE := fun σ H Q => ta σ H fun x H1 => ∃ a dx fs, x = .ref a ∧ H1 a = some (.ins C dx fs) ∧ fs.lookup m = none ∧ t σ H1 fun vs H2 => sp (x :: vs) H2 Q (E σ)
theorem pe_mts {X : Cx} {CX : CXT} {k j : Nat} {C : Addr} {ps : List Str} {sp : Sp} {E : L2.St → XK} {m : Str} {pos apos : Pos} {e o : Expr} {es : List Expr} {ta : TE} {t : TA} {pl : Sem Bool} (c : Cls X.K C) (G : CalM X.prog X.w X.K X.mg X.base CX j C m ps sp) (hr : Room k X.A) (hjk : j ≤ k) (hx : ∀ σ, PassesAt CX X σ (E σ))
    (he : PE X o ta) (ha : PA X (e :: es) t)
    (hst : starEach (e :: es) X.env = (false, eval e X.env) :: starEach es X.env := by rfl) (hpl : (backTo pos (starEach es X.env)).any (·.1) = false := by rfl)
    (ht : eval (.Call (.Attribute o m apos) (e :: es) [] pos) X.env = (do
      let ov ← eval o X.env
      standAt apos.atName
      let (f, first) ← holding [ov] (getMethod ov m pl)
      callWith pos f first (backTo pos (starEach (e :: es) X.env)) (backToKw pos (keywordEach [] X.env))) := by rfl) :
    PE X (.Call (.Attribute o m apos) (e :: es) [] pos) (tMtS C m sp E ta t) := by
  obtain ⟨qn, st, f, fd, D, F⟩ := G
  refine ⟨fun pins s σ H Q I h => ?_⟩
  refine PySem.W.methodCall_KW (pl := pl) (thn (he.run pins s σ H _ I h) fun u s1 h1 => ?_) ht
  obtain ⟨x, H1, I1, rx, a, dx, fs, ex, ea, l, q⟩ := h1
  subst ex
  have hu : u = Value.ref a := rx
  subst hu
  refine getmeth_ok I1 ea c D.M l ?_
  refine PySem.W.callWith_K (first := [.ref a]) (h₀ := X.base) I.ok.mod.kin D.M.kp (thn (ha.run pos pins s1 σ H1 _ I1 q) fun us s2 h2 => ?_) hst hpl
  obtain ⟨vs, H2, I2, r, q2⟩ := h2
  exact ⟨I2.kIn, run_fnS (us := .ref a :: us) (vs := .ref a :: vs) F (hr.mono hjk) D.b (hx σ) I2 (.cons rfl r) q2⟩
section
variable {P : Program} {w : World} {K : PySem.W.Frag} {mg : Str → Option Value} {base : Heap} {CR CV CS : Addr}
theorem c_Session_init (T : Txt K mg CR CV CS) : CalC P w K mg base CX0 6 "Session" CS ["self"] (spSesInit K CV CS) := by
  refine calC_mk T.d_Session_init fun f fd F => F.ok sc_Session_init (by rintro vs H Q E ⟨a, b, rfl, _⟩; rfl) fun cdv A outer s H vs Q E hr h => ?_
  have G_Reservoir := c_Reservoir_init (P := P) (w := w) (base := base) T
  obtain ⟨s, ds, rfl, hs, k⟩ := h
  refine ⟨_, (pss_cons (ps_fld (pv 0) pe_bl rfl)
    (pss_one (ps_fld (pv 0) (pe_mkc G_Reservoir hr (by decide) rfl passL (by exact (pa_cons pe_int pa_nil))) rfl))), ?_⟩
  refine ⟨_, rfl, s, CS, ds, _, rfl, hs, T.clS, T.a_has_reservoir, (by show 0 < 1000; decide), ?_⟩
  have o1 : Others H (upd H s (.ins CS ds (putF "has_reservoir" (.bl false) []))) s := Others.put (Same.refl H)
  have e1 : upd H s (.ins CS ds (putF "has_reservoir" (.bl false) [])) s = some (.ins CS ds (putF "has_reservoir" (.bl false) [])) := upd_same
  generalize upd H s (.ins CS ds (putF "has_reservoir" (.bl false) [])) = H1 at o1 e1
  intro x dx nx nd ne
  have s2 : Same H1 (upd (upd H1 dx (.own x)) x (.ins CV dx [])) := fun b o e => by
    rw [upd_ne (ne_of_none e nx), upd_ne (ne_of_none e nd)]
    exact e
  have e2 : upd (upd H1 dx (.own x)) x (.ins CV dx []) x = some (.ins CV dx []) := upd_same
  generalize upd (upd H1 dx (.own x)) x (.ins CV dx []) = H2 at s2 e2
  refine ⟨x, dx, 1, rfl, e2, fun z => by omega, fun _ H3 R3 o3 => ⟨rfl, ?_⟩⟩
  have nsx : s ≠ x := ne_of_none e1 nx
  have e3 := o3 _ _ (s2 _ _ e1) nsx
  refine ⟨_, rfl, s, CS, ds, _, rfl, e3, T.clS, T.a_reservoir, (by show 1 < 1000; decide), ?_⟩
  rw [put_ses]
  refine k _ ⟨ds, x, upd_same, fun r hr => by cases hr⟩ fun b o e nb => ?_
  rw [upd_ne nb]
  have eb := o1 b o e nb
  exact o3 _ _ (s2 _ _ eb) (ne_of_none eb nx)
theorem core_of {H : Hp} {Q : VK} {E : XK} {s x ds : Addr} {r : Reservoir} {B : Nat} {q : Request} (hs : H s = some (.ins CS ds (sesF true x))) (R : ResAt K CV H x r) (ok : Ok B r) (big : B ≤ 2 ^ 39)
    (bad : ∀ c, Kqk1.step (some r) q = (some r, .value c) → Ref CR E H c)
    (good : ∀ H' pp, H pp = none → H' pp = some (.lst ((Kqk1Neutral.fields (Kqk1.step (some r) q).2).map V.int)) → SesAt K CV CS H' s (Kqk1.step (some r) q).1 → KeepL H H' → Q (.ref pp) H') : Core K CR CV H Q E x r B q := by
  refine ⟨R, ok, big, bad, fun r' ns d H' pp f e R' ot => ?_⟩
  have n := ses_ne hs R
  obtain ⟨dx, aR, aI, aS, aP, aV, R0⟩ := id R
  refine good H' pp f (by rw [d.2]; exact e) ?_ (KeepL.others ot R0.o)
  rw [d.1]
  refine ⟨ds, x, ot _ _ hs (Ne.symm n), fun r2 h2 => ?_⟩
  cases h2
  exact R'
theorem c_perform (T : Txt K mg CR CV CS) : CalM P w K mg base (L2.CX P w) 11 CS "perform" ["self", "call", "arguments"] (spPerform K CR CV CS) := by
  refine calM_mk T.d_perform fun f fd F => F.okX sc_perform (by rintro vs H Q E ⟨a, b, c, d, e, g, h, rfl, _⟩; rfl) fun cdv A outer s H vs Q E hr h => ?_
  have G_Reservoir := c_Reservoir_init (P := P) (w := w) (base := base) T
  have G_refuse_if := c_refuse_if (P := P) (w := w) (base := base) T
  have G_perform_setting := c_perform_setting (P := P) (w := w) (base := base) T
  have G_perform_steps := c_perform_steps (P := P) (w := w) (base := base) T
  have G_perform_report := c_perform_report (P := P) (w := w) (base := base) T
  have G_perform_profile := c_perform_profile (P := P) (w := w) (base := base) T
  obtain ⟨s, st, B, p, a, l, q, rfl, hl, p0, p20, hreq, hrg, ⟨ds, x0, hs, hR⟩, ok, big, bad, good⟩ := h
  refine ⟨_, (pss_cons (ps_if (pt_cmpR op_eq (pv 1) (pe_gi rfl T.g_CREATE) (nomark _)) (pss_cons (ps_fld (pv 0) (pe_mkc G_Reservoir hr (by decide) rfl (passE rfl rfl rfl rfl) (by exact (pa_cons (pe_ix (r := rIxL K) ix_list (pv 2) pe_int (fun _ _ => rfl)) pa_nil))) rfl)
      (pss_cons (ps_fld (pv 0) pe_bl rfl)
      (pss_one (ps_ret (pe_lst (pa_cons pe_int pa_nil)))))) pss_nil)
    (pss_cons (ps_expr (pe_fx G_refuse_if hr (by decide) rfl (passE rfl rfl rfl rfl) (by exact (pa_cons (pe_not (pe_fld (pv 0) rfl)) (pa_cons (pe_gi rfl T.g_NO_RESERVOIR) pa_nil)))))
    (pss_cons (ps_if (pt_cmpR op_le (pv 1) pe_int (nomark _)) (pss_one (ps_ret (pe_fx G_perform_setting hr (by decide) rfl (passE rfl rfl rfl rfl) (by exact (pa_cons (pe_fld (pv 0) rfl) (pa_cons (pv 1) (pa_cons (pv 2) pa_nil))))))) pss_nil)
    (pss_cons (ps_if (pt_cmpR op_le (pv 1) pe_int (nomark _)) (pss_one (ps_ret (pe_fx G_perform_steps hr (by decide) rfl (passE rfl rfl rfl rfl) (by exact (pa_cons (pe_fld (pv 0) rfl) (pa_cons (pv 1) (pa_cons (pv 2) pa_nil))))))) pss_nil)
    (pss_cons (ps_if (pt_cmpR op_le (pv 1) pe_int (nomark _)) (pss_one (ps_ret (pe_fx G_perform_report hr (by decide) rfl (passE rfl rfl rfl rfl) (by exact (pa_cons (pe_fld (pv 0) rfl) (pa_cons (pv 1) (pa_cons (pv 2) pa_nil))))))) pss_nil)
    (pss_one (ps_ret (pe_fx G_perform_profile hr (by decide) rfl (passE rfl rfl rfl rfl) (by exact (pa_cons (pe_fld (pv 0) rfl) (pa_cons (pv 1) (pa_cons (pv 2) pa_nil)))))))))))), ?_⟩
  by_cases hp : p = 0
  · subst hp
    obtain ⟨n, rfl, rfl⟩ := Cf.req_0 hreq
    refine ⟨_, rfl, rfl, _, rfl, iT (by decide) ⟨_, rfl, a, _, _, _, rfl, rfl, hl, rfl, ?_⟩⟩
    intro x dx nx nd ne
    obtain ⟨n0, n1, en⟩ := nat_of (x := x) (hrg n (by simp))
    have s2 : Same H (upd (upd H dx (.own x)) x (.ins CV dx [])) := fun b o e => by
      rw [upd_ne (ne_of_none e nx), upd_ne (ne_of_none e nd)]
      exact e
    have e2 : upd (upd H dx (.own x)) x (.ins CV dx []) x = some (.ins CV dx []) := upd_same
    generalize upd (upd H dx (.own x)) x (.ins CV dx []) = H2 at s2 e2
    refine ⟨x, dx, n.toNat, en, e2, fun z => (bad _ (Cf.step_create.trans (if_pos z))).from s2, fun z H3 R3 o3 => ⟨rfl, ?_⟩⟩
    have nsx : s ≠ x := ne_of_none hs nx
    have e3 := o3 _ _ (s2 _ _ hs) nsx
    refine ⟨_, rfl, s, CS, ds, _, rfl, e3, T.clS, T.a_reservoir, len_ses, ?_⟩
    rw [put_res]
    refine ⟨_, rfl, s, CS, ds, _, rfl, upd_same, T.clS, T.a_has_reservoir, len_ses, ?_⟩
    rw [put_hasr, upd_upd]
    refine ⟨(by show 1 ≤ sizeLine; decide), fun pp hpp => ?_⟩
    have es : Kqk1.step st (.create n.toNat) = (some (Cf.fresh n.toNat), .value 0) := Cf.step_create.trans (if_neg z)
    rw [es] at good
    have R4 : ResAt K CV (upd H3 s (.ins CS ds (sesF true x))) x (Cf.fresh n.toNat) := R3.off (Ne.symm nsx) e3
    have e4 : upd H3 s (.ins CS ds (sesF true x)) s = some (.ins CS ds (sesF true x)) := upd_same
    have o4 : ∀ b o, H b = some o → b ≠ s → upd H3 s (.ins CS ds (sesF true x)) b = some o := fun b o e nb => by
      rw [upd_ne nb]
      exact o3 _ _ (s2 _ _ e) (ne_of_none e nx)
    generalize upd H3 s (.ins CS ds (sesF true x)) = H4 at R4 e4 o4 hpp
    have s5 : Same H4 (upd H4 pp (.lst [V.int 0])) := Same.new hpp
    refine good _ pp ?_ upd_same ⟨ds, x, s5 _ _ e4, fun r hr => ?_⟩ fun b o e no => ?_
    · exact Others.free (x := s) o4 e4 hpp
    · cases hr
      exact R4.keep s5
    · refine s5 _ _ (o4 b o e fun z => ?_)
      subst z
      rw [hs] at e
      exact no _ _ _ (Option.some.inj e).symm
  · refine ⟨_, rfl, rfl, _, rfl, iF (decide_eq_false fun e => hp (V.int.inj e)) ⟨_, rfl, s, CS, ds, _, _, rfl, hs, T.clS, T.a_has_reservoir, lk_hasr, _, rfl, _, _, rfl, fun z => ?_, fun z => ?_⟩⟩
    · cases st with
      | none => exact bad _ (Cf.step_none (Cf.none_req hp hreq))
      | some r => cases z
    cases st with
    | none => cases z
    | some r =>
    have R := hR r rfl
    have c : ∀ E', (∀ c, Kqk1.step (some r) q = (some r, .value c) → Ref CR E' H c) → Core K CR CV H Q E' x0 r B q := fun E' b' => core_of hs R (ok r rfl) big b' good
    have rd : ∀ {Q' : V → Prop}, Q' (.ref x0) → ∃ a C dx fs v, V.ref s = .ref a ∧ H a = some (.ins C dx fs) ∧ Cls K C ∧ NoAttr K C "reservoir" ∧ fs.lookup ("reservoir" : Str) = some v ∧ Q' v := fun k => ⟨s, CS, ds, _, _, rfl, hs, T.clS, T.a_reservoir, lk_res, k⟩
    refine ⟨_, rfl, _, _, rfl, rfl, _, rfl, ?_⟩
    by_cases h4 : p ≤ 4
    · exact iT (decide_eq_true h4) ⟨_, rfl, rd ⟨_, rfl, _, rfl, x0, r, B, p, a, l, q, rfl, hl, by omega, h4, hreq, hrg, c E bad⟩⟩
    refine iF (decide_eq_false h4) ⟨_, rfl, _, _, rfl, rfl, _, rfl, ?_⟩
    by_cases h9 : p ≤ 9
    · exact iT (decide_eq_true h9) ⟨_, rfl, rd ⟨_, rfl, _, rfl, x0, r, B, p, a, l, q, rfl, hl, by omega, h9, hreq, hrg, c E bad⟩⟩
    refine iF (decide_eq_false h9) ⟨_, rfl, _, _, rfl, rfl, _, rfl, ?_⟩
    by_cases h15 : p ≤ 15
    · exact iT (decide_eq_true h15) ⟨_, rfl, rd ⟨_, rfl, _, rfl, x0, r, B, p, a, l, q, rfl, hl, by omega, h15, hreq, hrg, c E bad⟩⟩
    exact iF (decide_eq_false h15) ⟨_, rfl, rd ⟨_, rfl, _, rfl, x0, r, B, p, a, l, q, rfl, hl, by omega, by omega, hreq, hrg, c E bad⟩⟩
/-- found = [e.code]: slots self, call, arguments, e, found -/
def tCode (CR : Addr) : Addr → Value → Option Addr → TS := fun a cls d => tAsg (tLst (tCons (tXf a cls d CR "code" (tVar 3)) tNil)) (gName 4)
theorem c_answer (T : Txt K mg CR CV CS) : CalM P w K mg base CX0 12 CS "answer" ["self", "call", "arguments"] (spAnswer K CV CS) := by
  refine calM_mk T.d_answer fun f fd F => F.ok sc_answer (by rintro vs H Q E ⟨a, b, c, d, e, g, h, rfl, _⟩; rfl) fun cdv A outer s H vs Q E hr h => ?_
  have G_perform := c_perform (P := P) (w := w) (base := base) T
  obtain ⟨s, st, B, p, a, l, q, rfl, hl, p0, p20, hreq, hrg, hses, ok, big, good⟩ := h
  refine ⟨_, pss_cons (ps_try_as (i := 3) (tb := fun W => tAsg (tMtS CS "perform" (spPerform K CR CV CS) (WE W) (tVar 0) (tCons (tVar 1) (tCons (tVar 2) tNil))) (gName 4)) (ts := tCode CR) (Wout := fun _ _ _ _ => False) rfl rfl sc_answer.nd rfl rfl ⟨rfl, by decide, Or.inl T.gR⟩ takes0
      (fun W pn xe tk _ => pss_one (ps_set (i := 4) sc_answer.nd rfl (Or.inl rfl) (by exact (pe_mts T.clS G_perform hr (by decide) (fun σ => passAt tk σ) (pv 0) (by exact (pa_cons (pv 1) (pa_cons (pv 2) pa_nil)))))))
      (fun a oe cls d pn hz hf => pss_one (ps_set (i := 4) sc_answer.nd rfl (Or.inl rfl) (by exact (pe_lst (by exact (pa_cons (pe_xf T.xf T.noCode hz hf (pv 3)) pa_nil)))))))
    (pss_one (ps_ret (pv 4))), ?_⟩
  obtain ⟨ds, x0, hs, hR⟩ := id hses
  refine ⟨_, rfl, s, ds, _, rfl, hs, lk_smeth (by decide +kernel), _, rfl, _, rfl, s, st, B, p, a, l, q, rfl, hl, p0, p20, hreq, hrg, hses, ok, big, fun c hc d H1 s1 e1 => ?_, fun H1 pp f1 e1 ses1 k1 => ?_⟩
  · refine ⟨true, T.eR, fun _ ae _ => ?_, fun z => Bool.noConfusion z⟩
    refine ⟨_, rfl, rfl, rfl, d, _, _, rfl, e1, lk_here, (by show 1 ≤ sizeLine; decide), fun pp hpp => ?_⟩
    have s2 : Same H1 (upd H1 pp (.lst [.int c])) := Same.new hpp
    have s02 := Same.trans s1 s2
    refine ⟨_, rfl, ?_⟩
    rw [hc] at good
    exact good _ pp (s1.free hpp) upd_same (hses.keep s02) (KeepL.of s02)
  · exact ⟨_, rfl, good H1 pp f1 e1 ses1 k1⟩
end
end L2.CfX

end
section
/-! The split of the calls; answers. -/
namespace L2.CfX
open PySem PySem.Spec PyProof.Rows L2
open Kqk1 (Cell Reservoir Request Result)
open Cf (Sm Bd CellSm RowSm StepsSm SumSm RowOk advN outs temps caps nowhere small sumR moved Ok Fails Does gained b01 Calls)
/-- one call as split_calls hands it on; its arguments' list is new over H0 -/
def CallOne (H0 H : Hp) (b : Addr) (c : List (List Int)) : Prop := ∃ p l aa, c = [p :: l] ∧ 0 ≤ p ∧ p ≤ 20 ∧ (∀ z ∈ l, 0 ≤ z ∧ z < 2 ^ 32) ∧ H b = some (.tup [.int p, .ref aa]) ∧ H aa = some (.lst (l.map V.int)) ∧ H0 aa = none
def CallsAt (H0 H : Hp) (p : Addr) (cs : Calls) : Prop := ∃ ls : List Addr, H p = some (.lst (ls.map V.ref)) ∧ SeqOf (CallOne H0 H) ls cs
def spSplit (K : PySem.W.Frag) : Sp := fun vs H Q _ => ∃ a ns cs, ∃ f : Nat, vs = [.ref a] ∧ SqL K H a (ns.map V.int) ∧ ns.length ≤ 600 ∧ (∀ z ∈ ns, 0 ≤ z ∧ z < 2 ^ 32) ∧ PyFlat.calls PyKqk1.shape f ns = some cs ∧
  ∀ H' p, Same H H' → H p = none → CallsAt H H' p cs → Q (.ref p) H'
def spAns (K : PySem.W.Frag) : Sp := fun vs H Q _ => ∃ a ns, vs = [.ref a] ∧ SqL K H a (ns.map V.int) ∧ ns.length ≤ 600 ∧ (∀ z ∈ ns, 0 ≤ z ∧ z < 2 ^ 32) ∧ PyKqk1.answers_asked ns = true ∧
  ∀ H' p, H' p = some (.lst ((PyKqk1.answers ns).map V.int)) → Q (.ref p) H'
theorem CallOne.keep {H0 H H' : Hp} {b : Addr} {c : List (List Int)} (h : CallOne H0 H b c) (k : ∀ b o, H b = some o → (∃ xs, o = .tup xs) ∨ H0 b = none → H' b = some o) : CallOne H0 H' b c := by
  obtain ⟨p, l, aa, e, p0, p1, r, h1, h2, h3⟩ := h
  exact ⟨p, l, aa, e, p0, p1, r, k _ _ h1 (.inl ⟨_, rfl⟩), k _ _ h2 (.inr h3), h3⟩
theorem cut_mid {xs : List V} {i j : Nat} (hij : i ≤ j) (hj : j ≤ xs.length) : cutV xs (some (i : Int)) (some (j : Int)) = (xs.drop i).take (j - i) := by
  have e1 : HT.sIx xs.length 0 (some (i : Int)) = min i xs.length := HT.sIx_nat _ _ _
  have e2 : HT.sIx xs.length xs.length (some (j : Int)) = min j xs.length := HT.sIx_nat _ _ _
  show (xs.drop (HT.sIx xs.length 0 (some (i : Int)))).take (HT.sIx xs.length xs.length (some (j : Int)) - HT.sIx xs.length 0 (some (i : Int))) = _
  rw [e1, e2, Nat.min_eq_left hj, Nat.min_eq_left (Nat.le_trans hij hj)]
theorem drop_one {α : Type} {l : List α} {j : Nat} (h : j < l.length) : l.drop j = l[j] :: l.drop (j + 1) := List.drop_eq_getElem_cons h
section
variable {P : Program} {w : World} {K : PySem.W.Frag} {mg : Str → Option Value} {base : Heap} {CR CV CS : Addr}
theorem c_split_calls (T : Txt K mg CR CV CS) : Cal P w K mg base CX0 1 "split_calls" ["numbers"] (spSplit K) := by
  refine cal_mk T.d_split_calls fun f fd F => F.ok sc_split_calls (by rintro vs H Q E ⟨a, b, c, d, rfl, _⟩; rfl) fun cdv A outer s H vs Q E hr h => ?_
  obtain ⟨aN, gN, kN⟩ := T.g_NUMBERS
  obtain ⟨a, ns, cs, f0, rfl, hq, h600, hrg, hcs, k⟩ := h
  refine ⟨_, (pss_cons (ps_set (i := 1) sc_split_calls.nd rfl (Or.inl rfl) (pe_lst pa_nil))
    (pss_cons (ps_set (i := 2) sc_split_calls.nd rfl (Or.inl rfl) pe_int)
    (pss_cons (ps_while PassesOwn.never (pt_cmpR op_lt (pv 2) (pe_callB call_len_seq (by rfl) T.m_len PySem.boot_len (pa_cons (pv 0) pa_nil)) (nomark _)) (pss_cons (ps_set (i := 3) sc_split_calls.nd rfl (Or.inl rfl) (pe_ix (r := rIxL K) ix_list (pv 0) (pv 2) (fun _ _ => rfl)))
      (pss_cons (ps_set (i := 4) sc_split_calls.nd rfl (Or.inl rfl) (pe_op op_add (pe_op op_add (pv 2) pe_int) (pe_ix (r := rIxT K) ix_tup (pe_glob (v := .ref aN) rfl gN rfl) (pv 3) (fun _ _ => rfl))))
      (pss_cons (ps_expr (pe_bm PySem.F.plainAttrs_list PySem.F.slot_list_append PySem.F.type_list_append mt_append (pv 1) (pa_cons (pe_tup (pa_cons (pv 3) (pa_cons (pe_slice sl_list (pv 0) (po_some (pe_op op_add (pv 2) pe_int)) (po_some (pv 4))) pa_nil))) pa_nil)))
      (pss_one (ps_set (i := 2) sc_split_calls.nd rfl (Or.inl rfl) (pv 4)))))))
    (pss_one (ps_ret (pv 1)))))), ?_⟩
  refine ⟨(by show 0 ≤ sizeLine; decide), fun g hg => ?_⟩
  have s0 : Same H (upd H g (.lst [])) := Same.new hg
  have e0 : upd H g (.lst []) g = some (.lst []) := upd_same
  generalize upd H g (.lst []) = H0 at s0 e0
  refine while_by (fun σ H' => ∃ (j : Nat) (don rest : Calls) (f1 : Nat) (v3 v4 : Option V), σ = [some (.ref a), some (.ref g), some (.int (j : Int)), v3, v4] ∧ (∀ b o, H0 b = some o → b ≠ g → H' b = some o) ∧ CallsAt H0 H' g don ∧ PyFlat.calls PyKqk1.shape f1 (ns.drop j) = some rest ∧ cs = don ++ rest ∧ j ≤ ns.length ∧ don.length ≤ j)
    (fun σ _ => match σ with | [_, _, some (.int j), _, _] => ns.length - j.toNat | _ => 0) ⟨0, [], cs, f0, none, none, rfl, fun b o e _ => e, ⟨[], e0, SeqOf.nil⟩, hcs, rfl, Nat.zero_le _, Nat.zero_le _⟩ ?_ ?_
  · rintro σ H' ⟨j, don, rest, f1, v3, v4, rfl, ot, hdon, hrest, rfl, hj, hdl⟩
    have sH : Same H H' := fun b o e => ot b o (s0 b o e) (ne_of_none e hg)
    refine ⟨_, rfl, _, rfl, a, _, rfl, .inl (sH.seq hq), _, _, rfl, rfl, _, rfl, ?_⟩
    by_cases hlt : j < ns.length
    · refine iT (decide_eq_true (by rw [List.length_map]; omega)) ?_
      rw [drop_one hlt] at hrest
      obtain ⟨n, f2, cs', p0, p20, hn, hnl, hcs', rfl⟩ := Cf.calls_cons hrest
      have hgp : (ns.map V.int)[j]? = some (.int ns[j]) := by rw [List.getElem?_map, List.getElem?_eq_getElem hlt] <;> rfl
      have hpr := hrg ns[j] (List.getElem_mem hlt)
      generalize ns[j] = p at hgp p0 p20 hn hpr hdon hcs hrest
      refine ⟨_, rfl, _, rfl, a, _, _, _, rfl, rfl, sH.seq hq, atI_nat hgp, ?_⟩
      have hnum : atI ([1, 2, 2, 1, 1, 0, 1, 0, 1, 1, 0, 0, 0, 0, 1, 0, 0, 0, 0, 1, 0].map V.int) p = some (.int (n : Int)) := by
        have hnm : (Cf.nums.map V.int)[p.toNat]? = some (.int (n : Int)) := by rw [List.getElem?_map, hn] <;> rfl
        exact at_of (by omega) hnm
      refine ⟨_, rfl, _, _, rfl, rfl, _, rfl, aN, _, _, _, rfl, rfl, .inr kN, hnum, _, _, rfl, rfl, ?_⟩
      have hlen : (ns.drop (j + 1)).length = ns.length - (j + 1) := List.length_drop
      have hle : j + 1 + n ≤ ns.length := by omega
      obtain ⟨ls, hls, sq⟩ := hdon
      refine ⟨_, rfl, .inl ⟨rfl, _, SqL.of hls⟩, _, rfl, _, rfl, _, rfl, _, _, rfl, rfl, _, rfl, _, rfl, _, rfl, a, _, rfl, sH.seq hq, fun aa haa => ?_⟩
      have ecut : cutV (ns.map V.int) (some ((j : Int) + 1)) (some ((j : Int) + 1 + (n : Int))) = ((ns.drop (j + 1)).take n).map V.int := by
        have := cut_mid (xs := ns.map V.int) (i := j + 1) (j := j + 1 + n) (by omega) (by rw [List.length_map]; exact hle)
        rw [Nat.add_sub_cancel_left, ← List.map_drop, ← List.map_take] at this
        exact this
      rw [ecut] at *
      have s1 : Same H' (upd H' aa (.lst (((ns.drop (j + 1)).take n).map V.int))) := Same.new haa
      have e1 : upd H' aa (.lst (((ns.drop (j + 1)).take n).map V.int)) aa = some (.lst (((ns.drop (j + 1)).take n).map V.int)) := upd_same
      have naa : aa ≠ g := fun z => by rw [z, hls] at haa; cases haa
      have haa0 : H0 aa = none := by
        cases q : H0 aa with
        | none => rfl
        | some o =>
          rw [ot aa o q naa] at haa
          cases haa
      generalize upd H' aa (.lst (((ns.drop (j + 1)).take n).map V.int)) = H1 at s1 e1
      refine ⟨(by show 2 ≤ sizeLine; decide), fun b hb => ?_⟩
      have s2 : Same H1 (upd H1 b (.tup [.int p, .ref aa])) := Same.new hb
      have e2 : upd H1 b (.tup [.int p, .ref aa]) b = some (.tup [.int p, .ref aa]) := upd_same
      generalize upd H1 b (.tup [.int p, .ref aa]) = H2 at s2 e2
      have s02 := Same.trans s1 s2
      have eg := s02 _ _ hls
      have nb : b ≠ g := fun z => by rw [z, eg] at e2; cases e2
      refine ⟨g, _, _, rfl, rfl, eg, size8 (by rw [List.length_map, sq.len]; omega), ?_⟩
      have kp : ∀ b' o, H2 b' = some o → b' ≠ g → upd H2 g (.lst (ls.map V.ref ++ [V.ref b])) b' = some o := fun b' o e n' => by
        rw [upd_ne n']
        exact e
      refine ⟨_, rfl, ⟨j + 1 + n, don ++ [[p :: (ns.drop (j + 1)).take n]], cs', f2, _, _, rfl, fun b' o e n' => kp _ _ (s02 _ _ (ot _ _ e n')) n', ⟨ls ++ [b], ?_, ?_⟩, ?_, ?_, hle, ?_⟩, ?_⟩
      · rw [List.map_append]
        exact upd_same
      · refine SeqOf.append (SeqOf.mono (Q := CallOne H0 (upd H2 g (.lst (ls.map V.ref ++ [V.ref b])))) sq fun b' z qq => qq.keep fun b2 o e hk => kp _ _ (s02 _ _ e) fun z => ?_) (SeqOf.one ⟨p, _, aa, rfl, p0, p20, fun z hz => hrg z (List.mem_of_mem_drop (List.mem_of_mem_take hz)), kp _ _ e2 nb, kp _ _ (s2 _ _ e1) naa, haa0⟩)
        subst z
        rcases hk with ⟨xs, rfl⟩ | hk
        · rw [hls] at e
          cases e
        · rw [e0] at hk
          cases hk
      · rw [← List.drop_drop]
        rw [List.drop_drop] at hcs'
        rw [List.drop_drop]
        exact hcs'
      · rw [List.append_assoc]
        rfl
      · rw [List.length_append]
        show don.length + 1 ≤ j + 1 + n
        omega
      · show ns.length - ((j : Int) + 1 + (n : Int)).toNat < ns.length - ((j : Int)).toNat
        omega
    · refine iF (decide_eq_false (by rw [List.length_map]; omega)) ?_
      have hj2 : ns.drop j = [] := List.drop_of_length_le (by omega)
      rw [hj2, Cf.calls_nil] at hrest
      cases hrest
      rw [List.append_nil] at k
      obtain ⟨ls, hls, sq⟩ := hdon
      exact ⟨_, rfl, k H' g sH hg ⟨ls, hls, SeqOf.mono (Q := CallOne H H') sq fun b c ⟨p, l, aa, e, x1, x2, x3, x4, x5, x6⟩ => ⟨p, l, aa, e, x1, x2, x3, x4, x5, s0.free x6⟩⟩⟩
  · rintro σ H' Q1 Q2 m ⟨v, e, u, eu, b, ys, eb, hb, i, j, e1, e2, z, ez, q⟩
    exact ⟨v, e, u, eu, b, ys, eb, hb, i, j, e1, e2, z, ez, m _ _ q⟩
theorem told_small {cs : Calls} (h : (PyFlat.told (PyFlat.played Kqk1Neutral.step none cs)).length ≤ 10000000) (i : Nat) : (PyFlat.told (PyFlat.played Kqk1Neutral.step none (cs.take i))).length ≤ 10000000 := by
  obtain ⟨m, e⟩ := Cf.played_app (cs.take i) (cs.drop i) none
  rw [List.take_append_drop] at e
  rw [e] at h
  exact Nat.le_trans Cf.told_le h
theorem ok_answers (T : Txt K mg CR CV CS) {f : Addr} {fd : FuncData} (F : Fun K "answers" "answers" s_answers f fd) : FnOk P w K mg base CX0 13 f fd ["calls"] (spAns K) := by
  refine F.ok sc_answers (by rintro vs H Q E ⟨a, b, rfl, _⟩; rfl) fun cdv A outer s0 H vs Q E hr h => ?_
  have G_Session := c_Session_init (P := P) (w := w) (base := base) T
  have G_split_calls := c_split_calls (P := P) (w := w) (base := base) T
  have G_answer := c_answer (P := P) (w := w) (base := base) T
  obtain ⟨a, ns, rfl, hq, h600, hrg, hask, k⟩ := h
  refine ⟨_, (pss_cons (ps_set (i := 1) sc_answers.nd rfl (Or.inl rfl) (pe_mkc0 G_Session hr (by decide) rfl pass0))
    (pss_cons (ps_set (i := 2) sc_answers.nd rfl (Or.inl rfl) (pe_lst pa_nil))
    (pss_cons (ps_for PassesOwn.never rfl (pi_list (pe_fn G_split_calls hr (by decide) rfl (by exact (pa_cons (pv 0) pa_nil)))) (pg_tup rfl (pgs_cons (pg_name (i := 3) sc_answers.nd rfl (Or.inl rfl)) (pgs_cons (pg_name (i := 4) sc_answers.nd rfl (Or.inl rfl)) pgs_nil)))
      (pss_cons (ps_set (i := 5) sc_answers.nd rfl (Or.inl rfl) (pe_mt T.clS G_answer hr (by decide) pass0 (pv 1) (by exact (pa_cons (pv 3) (pa_cons (pv 4) pa_nil)))))
      (pss_cons (ps_expr (pe_bm PySem.F.plainAttrs_list PySem.F.slot_list_append PySem.F.type_list_append mt_append (pv 2) (pa_cons (pe_callB call_len_seq (by rfl) T.m_len PySem.boot_len (pa_cons (pv 5) pa_nil)) pa_nil)))
      (pss_one (ps_expr (pe_bm PySem.F.plainAttrs_list PySem.F.slot_list_extend PySem.F.type_list_extend mt_extend (pv 2) (pa_cons (pv 5) pa_nil)))))))
    (pss_one (ps_ret (pv 2)))))), ?_⟩
  obtain ⟨cs, hcs, hcall, h200, htot⟩ := Cf.asked_calls hask
  rw [Cf.answers_eq hcs] at htot k
  -- session = Session()
  intro s dx ns0 nd ne
  have s1 : Same H (upd (upd H dx (.own s)) s (.ins CS dx [])) := fun b o e => by
    rw [upd_ne (ne_of_none e ns0), upd_ne (ne_of_none e nd)]
    exact e
  have e1 : upd (upd H dx (.own s)) s (.ins CS dx []) s = some (.ins CS dx []) := upd_same
  generalize upd (upd H dx (.own s)) s (.ins CS dx []) = H1 at s1 e1
  refine ⟨s, dx, rfl, e1, fun H2 ses2 o2 => ⟨rfl, ?_⟩⟩
  have s02 : Same H H2 := fun b o e => o2 _ _ (s1 _ _ e) (ne_of_none e ns0)
  -- found = []
  refine ⟨(by show 0 ≤ sizeLine; decide), fun g hg => ?_⟩
  have s3 : Same H2 (upd H2 g (.lst [])) := Same.new hg
  have e3 : upd H2 g (.lst []) g = some (.lst []) := upd_same
  generalize upd H2 g (.lst []) = H3 at s3 e3
  have s03 := Same.trans s02 s3
  refine ⟨_, rfl, a, ns, cs, ns.length, rfl, s03.seq hq, h600, hrg, hcs, fun H4 L s4 fL hL => ?_⟩
  obtain ⟨ls, hls, sq⟩ := hL
  have nL : L ≠ g := fun z => by rw [z, e3] at fL; cases fL
  refine ⟨L, rfl, ⟨_, SqL.of hls⟩, for_list (K := K) (a := L) (xs := ls.map V.ref) (fun i σ H' => ∃ v3 v4 v5, σ = [some (.ref a), some (.ref s), some (.ref g), v3, v4, v5] ∧ H' g = some (.lst ((PyFlat.told (PyFlat.played Kqk1Neutral.step none (cs.take i))).map V.int)) ∧
      SesAt K CV CS H' s (Cf.after none (cs.take i)) ∧ (∀ r, Cf.after none (cs.take i) = some r → Ok (6000 * i) r) ∧ (∀ b o, H4 b = some o → (∀ C d fs, o ≠ .ins C d fs) → b ≠ g → H' b = some o))
    ⟨none, none, none, rfl, s4 _ _ e3, (ses2.keep s3).keep s4, fun r hr => (nomatch hr), fun b o e _ _ => e⟩ (fun i σ H' _ ⟨_, _, _, _, _, _, _, kk⟩ => SqL.of (kk _ _ hls (fun _ _ _ z => nomatch z) nL)) ?_ ?_⟩
  · rintro i y σ H' hi ⟨v3, v4, v5, rfl, hgl, ses, ok, kk⟩
    obtain ⟨b, hb, rfl⟩ := ref_at hi
    obtain ⟨c, hci, p, l, aa, rfl, p0, p20, hl, hbt, haa, haa0⟩ := sq.of_at hb
    have hil : i < cs.length := (List.getElem?_eq_some_iff.mp hci).1
    obtain ⟨q, hreq⟩ := Cf.asked_req (hcall _ (mem_at hci))
    have naa : aa ≠ g := fun z => by rw [z, e3] at haa0; cases haa0
    have nb : b ≠ g := fun z => by
      rw [z, s4 _ _ e3] at hbt
      cases hbt
    have hbt' := kk _ _ hbt (fun _ _ _ z => nomatch z) nb
    have haa' := kk _ _ haa (fun _ _ _ z => nomatch z) naa
    obtain ⟨ds, x, hs, _⟩ := id ses
    have step : Cf.after none (cs.take (i + 1)) = (Kqk1.step (Cf.after none (cs.take i)) q).1 := by
      rw [take_one hci, Cf.after_snoc, Cf.step_req hreq]
    have pl : PyFlat.told (PyFlat.played Kqk1Neutral.step none (cs.take (i + 1))) = PyFlat.told (PyFlat.played Kqk1Neutral.step none (cs.take i)) ++ (((Kqk1Neutral.fields (Kqk1.step (Cf.after none (cs.take i)) q).2).length : Int) :: Kqk1Neutral.fields (Kqk1.step (Cf.after none (cs.take i)) q).2) := by
      rw [take_one hci, Cf.played_snoc, Cf.told_snoc, Cf.step_req hreq]
    have sz := told_small htot (i + 1)
    rw [pl, List.length_append, List.length_cons] at sz
    refine ⟨b, _, rfl, SqT.of hbt', rfl, _, _, rfl, _, _, rfl, rfl, ?_⟩
    refine ⟨_, rfl, s, ds, _, rfl, hs, lk_smeth (by decide +kernel), _, rfl, _, rfl, s, _, 6000 * i, p, aa, l, q, rfl, SqL.of haa', p0, p20, hreq, hl, ses, ok, by omega, fun H5 pp fpp epp ses5 k5 => ?_⟩
    have hg5 := k5 _ _ hgl fun _ _ _ z => nomatch z
    have npp : pp ≠ g := fun z => by rw [z, hgl] at fpp; cases fpp
    have ok5 : ∀ r, (Kqk1.step (Cf.after none (cs.take i)) q).1 = some r → Ok (6000 * (i + 1)) r := fun r hr => by
      have := Cf.ok_after ok r hr
      rw [Nat.mul_add, Nat.mul_one]
      exact this
    generalize Kqk1Neutral.fields (Kqk1.step (Cf.after none (cs.take i)) q).2 = ms at pl sz epp
    have szl : (16777216 : Nat) = sizeLine := by rw [sizeLine_eq]
    refine ⟨_, rfl, .inl ⟨rfl, _, SqL.of hg5⟩, _, rfl, pp, _, rfl, .inl (SqL.of epp), g, _, _, rfl, rfl, hg5, by rw [List.length_map, ← szl]; omega, ?_⟩
    refine ⟨_, rfl, .inl ⟨rfl, _, SqL.of upd_same⟩, _, rfl, g, pp, _, _, rfl, rfl, upd_same, by rw [upd_ne npp]; exact epp, by rw [List.length_append, List.length_map, List.length_map, ← szl]; show _ + 1 + _ ≤ _; omega, ?_⟩
    rw [upd_upd]
    have el : (PyFlat.told (PyFlat.played Kqk1Neutral.step none (cs.take i))).map V.int ++ [V.int ((ms.map V.int).length : Int)] ++ ms.map V.int = (PyFlat.told (PyFlat.played Kqk1Neutral.step none (cs.take (i + 1)))).map V.int := by
      rw [pl, List.map_append, List.map_cons, List.append_assoc, List.length_map]
      rfl
    rw [el]
    refine ⟨_, _, _, rfl, upd_same, ?_, ?_, fun b' o e no nbg => ?_⟩
    · rw [step]
      exact ses5.list ok5 hg5
    · rw [step]
      exact ok5
    · rw [upd_ne nbg]
      exact k5 _ _ (kk _ _ e no nbg) no
  · rintro σ H' ⟨v3, v4, v5, rfl, hgl, ses, ok, kk⟩
    rw [List.length_map, sq.len, List.take_length] at hgl
    exact ⟨_, rfl, k H' g hgl⟩
end
end L2.CfX

end
section
/-! What the top has written, put together from the written part. -/
namespace L2.CfX
open PySem PySem.Spec PyProof.Rows L2
def intsB : List Int → List Value → Bool
  | [], [] => true
  | i :: r, .int j _ :: q => decide (i = j) && intsB r q
  | _, _ => false
theorem intsB_ok : ∀ (is : List Int) (us : List Value), intsB is us = true → Vals (is.map V.int) us
  | [], [], _ => .nil
  | [], _ :: _, h => nomatch h
  | _ :: _, [], h => nomatch h
  | i :: r, u :: q, h => by
    cases u with
    | int j t =>
      have h' : (decide (i = j) && intsB r q) = true := h
      obtain ⟨h1, h2⟩ := Bool.and_eq_true_iff.mp h'
      have e := of_decide_eq_true h1
      subst e
      exact .cons ⟨t, rfl⟩ (intsB_ok r q h2)
    | _ => exact nomatch h
theorem exm_self {K : PySem.W.Frag} {S : Addr} (h1 : PySem.W.subIn K (.ref S) (.type "BaseException") = some true) (h2 : PySem.W.isClsIn K S = true) (h3 : PySem.W.typeIn K (.ref S) = some (.type "type")) (h4 : PySem.W.subIn K (.ref S) (.ref S) = some true) :
    PySem.W.exmOne K (.ref S) (.ref S) = some true := by
  have e1 : (PySem.W.subIn K (.ref S) (.type "BaseException") == some true) = true := by rw [h1] <;> rfl
  have e2 : ((PySem.W.clsIn K S).isSome && PySem.W.typeIn K (.ref S) == some (.type "type")) = true := by
    have h2' : (PySem.W.clsIn K S).isSome = true := h2
    rw [h2', h3] <;> rfl
  show (if (PySem.W.subIn K (.ref S) (.type "BaseException") == some true) = true then (if ((PySem.W.clsIn K S).isSome && PySem.W.typeIn K (.ref S) == some (.type "type")) = true then PySem.W.subIn K (.ref S) (.ref S) else none) else none) = some true
  rw [if_pos e1, if_pos e2]
  exact h4
/-- how a def's arguments are bound -/
abbrev BindsN (x q : Str) (st : Stmt) (ps : List Str) : Prop := ∀ (kV doc pm : Value) (an : Option Addr) (cdv ct : Value) (us : List Value), us.length = ps.length → bindArgs (PySem.W.fnOf x q (defArgs st) (defBody st) (defScope st) .none kV doc pm an cdv ct) ⟨us, []⟩ = pure (ps.zip us)
section
variable {K : PySem.W.Frag} {h : Heap} {mg : Str → Option Value} {x q m : Str} {st : Stmt} {f C : Addr} {oc kV doc pm cdv ct : Value} {od an : Option Addr} {osl : Array (Option Value)} {ps : List Str}
theorem df_mk (X : K.In h) (G : h.Ns mainGlobals mg) (b : BindsN x x st ps) (a : PySem.W.nsIn K mainGlobals x = some (some (.ref f))) (l : K.lookup f = some ⟨oc, od, .func (PySem.W.fnOf x x (defArgs st) (defBody st) (defScope st) .none kV doc pm an cdv ct), osl⟩)
    (c : PySem.W.codeIn K cdv x = true) (k : PySem.W.keepIn K (.ref f) = true) : ∃ f fd, Df K mg x st f fd ps := ⟨f, _, fun_mk l c k, PySem.W.mg_of X G a, (fun_mk l c k).binds b⟩
theorem mt_mk (b : BindsN m q st ps) (a : PySem.W.findIn K (.ref C) m = some (some (.ref f))) (l : K.lookup f = some ⟨oc, od, .func (PySem.W.fnOf m q (defArgs st) (defBody st) (defScope st) .none kV doc pm an cdv ct), osl⟩)
    (c : PySem.W.codeIn K cdv q = true) (k : PySem.W.keepIn K (.ref f) = true) (i : PySem.W.isFn K (.ref f) = true) : ∃ f fd, Mt K C q m st f fd ps := ⟨f, _, fun_mk l c k, ⟨a, i, k⟩, (fun_mk l c k).binds b⟩
theorem cz_mk (g : mg x = some (.ref C)) (b : BindsN "__init__" q st ps) (a : PySem.W.findIn K (.ref C) "__init__" = some (some (.ref f))) (l : K.lookup f = some ⟨oc, od, .func (PySem.W.fnOf "__init__" q (defArgs st) (defBody st) (defScope st) .none kV doc pm an cdv ct), osl⟩)
    (c : PySem.W.codeIn K cdv q = true) (k : PySem.W.keepIn K (.ref f) = true) (i : PySem.W.isFn K (.ref f) = true) (ma : PySem.W.makesIn K C = true) (kC : PySem.W.keepIn K (.ref C) = true) : ∃ f fd, Cz K mg x q C st f fd ps :=
  ⟨f, _, fun_mk l c k, ⟨ma, a, i, kC⟩, (fun_mk l c k).binds b, g⟩
theorem ez_mk (g : mg x = some (.ref C)) (b : BindsN "__init__" q st ps) (a : PySem.W.findIn K (.ref C) "__init__" = some (some (.ref f))) (l : K.lookup f = some ⟨oc, od, .func (PySem.W.fnOf "__init__" q (defArgs st) (defBody st) (defScope st) .none kV doc pm an cdv ct), osl⟩)
    (c : PySem.W.codeIn K cdv q = true) (k : PySem.W.keepIn K (.ref f) = true) (t : PySem.W.typeIn K (.ref f) = some (.type "function")) : ∃ f fd, Ez K mg x q C st f fd ps := ⟨f, _, fun_mk l c k, a, t, (fun_mk l c k).binds b, g⟩
theorem gint_mk {i j : Int} {t : Tok} (X : K.In h) (G : h.Ns mainGlobals mg) (a : PySem.W.nsIn K mainGlobals x = some (some (.int j t))) (e : j = i) : GInt mg x i := ⟨t, e ▸ PySem.W.mg_of X G a⟩
theorem ktup_mk {its : Array Value} {n : Nat} {is : List Int} (X : K.In h) (G : h.Ns mainGlobals mg) (a : PySem.W.nsIn K mainGlobals x = some (some (.ref f))) (l : K.lookup f = some ⟨.type "tuple", od, .seq its n, osl⟩) (s : its.size ≤ sizeLine) (v : intsB is its.toList = true) :
    ∃ a, mg x = some (.ref a) ∧ KTup K a (is.map V.int) := ⟨f, PySem.W.mg_of X G a, _, its, n, l, rfl, rfl, s, intsB_ok _ _ v⟩
theorem refc_mk {nm q : Str} {N : Addr} {bs : List Value} {sn : List Str} {sub : List Value} {ab : Bool} {col : Option Bool} {dd : Option Addr} {m0 m1 m2 m3 m5 : Option Value}
    (l : K.lookup C = some (excClassObj nm q C N bs [.type "Exception", .type "BaseException", .type "object"] true sn sub ab col dd m0 m1 m2 m3 m5 "Exception.__new__")) (sa : PySem.W.findIn K (.ref C) "__setattr__" = some (some (.builtin "object.__setattr__")))
    (e : PySem.W.subIn K (.ref C) (.type "BaseException") = some true) (t : PySem.W.typeIn K (.ref C) = some (.type "type")) (k : PySem.W.keepIn K (.ref C) = true) : RefC K C := ⟨⟨nm, q, N, bs, sn, sub, ab, col, dd, m0, m1, m2, m3, m5, l⟩, sa, e, t, k⟩
end
theorem bi_split_calls : BindsN "split_calls" "split_calls" s_split_calls ["numbers"] := fun _ _ _ _ _ _ us hl => match us, hl with | [_], _ => rfl
theorem bi_Refusal_init : BindsN "__init__" "Refusal.__init__" s_Refusal_init ["self", "code"] := fun _ _ _ _ _ _ us hl => match us, hl with | [_, _], _ => rfl
theorem bi_refuse_if : BindsN "refuse_if" "refuse_if" s_refuse_if ["is_wrong", "code"] := fun _ _ _ _ _ _ us hl => match us, hl with | [_, _], _ => rfl
theorem bi_common_divisor : BindsN "common_divisor" "common_divisor" s_common_divisor ["one", "other"] := fun _ _ _ _ _ _ us hl => match us, hl with | [_, _], _ => rfl
theorem bi_ratio : BindsN "ratio" "ratio" s_ratio ["numerator", "denominator"] := fun _ _ _ _ _ _ us hl => match us, hl with | [_, _], _ => rfl
theorem bi_whole : BindsN "whole" "whole" s_whole ["number"] := fun _ _ _ _ _ _ us hl => match us, hl with | [_], _ => rfl
theorem bi_plus : BindsN "plus" "plus" s_plus ["one", "other"] := fun _ _ _ _ _ _ us hl => match us, hl with | [_, _], _ => rfl
theorem bi_times : BindsN "times" "times" s_times ["fraction", "factor"] := fun _ _ _ _ _ _ us hl => match us, hl with | [_, _], _ => rfl
theorem bi_divided : BindsN "divided" "divided" s_divided ["fraction", "divisor"] := fun _ _ _ _ _ _ us hl => match us, hl with | [_, _], _ => rfl
theorem bi_is_below : BindsN "is_below" "is_below" s_is_below ["one", "other"] := fun _ _ _ _ _ _ us hl => match us, hl with | [_, _], _ => rfl
theorem bi_sum_of : BindsN "sum_of" "sum_of" s_sum_of ["fractions"] := fun _ _ _ _ _ _ us hl => match us, hl with | [_], _ => rfl
theorem bi_greatest_of : BindsN "greatest_of" "greatest_of" s_greatest_of ["fractions"] := fun _ _ _ _ _ _ us hl => match us, hl with | [_], _ => rfl
theorem bi_least_of : BindsN "least_of" "least_of" s_least_of ["fractions"] := fun _ _ _ _ _ _ us hl => match us, hl with | [_], _ => rfl
theorem bi_equilibrated : BindsN "equilibrated" "equilibrated" s_equilibrated ["cell"] := fun _ _ _ _ _ _ us hl => match us, hl with | [_], _ => rfl
theorem bi_all_equilibrated : BindsN "all_equilibrated" "all_equilibrated" s_all_equilibrated ["row"] := fun _ _ _ _ _ _ us hl => match us, hl with | [_], _ => rfl
theorem bi_moved : BindsN "moved" "moved" s_moved ["row", "entering"] := fun _ _ _ _ _ _ us hl => match us, hl with | [_, _], _ => rfl
theorem bi_after_step : BindsN "after_step" "after_step" s_after_step ["row", "entering"] := fun _ _ _ _ _ _ us hl => match us, hl with | [_, _], _ => rfl
theorem bi_last_water : BindsN "last_water" "last_water" s_last_water ["row"] := fun _ _ _ _ _ _ us hl => match us, hl with | [_], _ => rfl
theorem bi_after_steps : BindsN "after_steps" "after_steps" s_after_steps ["row", "entering", "steps"] := fun _ _ _ _ _ _ us hl => match us, hl with | [_, _, _], _ => rfl
theorem bi_temperatures_of : BindsN "temperatures_of" "temperatures_of" s_temperatures_of ["row"] := fun _ _ _ _ _ _ us hl => match us, hl with | [_], _ => rfl
theorem bi_with_temperature : BindsN "with_temperature" "with_temperature" s_with_temperature ["cell", "temperature"] := fun _ _ _ _ _ _ us hl => match us, hl with | [_, _], _ => rfl
theorem bi_with_cell : BindsN "with_cell" "with_cell" s_with_cell ["row", "index", "cell"] := fun _ _ _ _ _ _ us hl => match us, hl with | [_, _, _], _ => rfl
theorem bi_heat_of : BindsN "heat_of" "heat_of" s_heat_of ["row"] := fun _ _ _ _ _ _ us hl => match us, hl with | [_], _ => rfl
theorem bi_capacities_of : BindsN "capacities_of" "capacities_of" s_capacities_of ["row"] := fun _ _ _ _ _ _ us hl => match us, hl with | [_], _ => rfl
theorem bi_is_nowhere_colder : BindsN "is_nowhere_colder" "is_nowhere_colder" s_is_nowhere_colder ["row", "other"] := fun _ _ _ _ _ _ us hl => match us, hl with | [_, _], _ => rfl
theorem bi_mean_row : BindsN "mean_row" "mean_row" s_mean_row ["row", "other"] := fun _ _ _ _ _ _ us hl => match us, hl with | [_, _], _ => rfl
theorem bi_check_temperature : BindsN "check_temperature" "check_temperature" s_check_temperature ["temperature"] := fun _ _ _ _ _ _ us hl => match us, hl with | [_], _ => rfl
theorem bi_check_denominators : BindsN "check_denominators" "check_denominators" s_check_denominators ["fractions"] := fun _ _ _ _ _ _ us hl => match us, hl with | [_], _ => rfl
theorem bi_Reservoir_init : BindsN "__init__" "Reservoir.__init__" s_Reservoir_init ["self", "cell_count"] := fun _ _ _ _ _ _ us hl => match us, hl with | [_, _], _ => rfl
theorem bi_check_cell : BindsN "check_cell" "Reservoir.check_cell" s_check_cell ["self", "cell"] := fun _ _ _ _ _ _ us hl => match us, hl with | [_, _], _ => rfl
theorem bi_check_saved : BindsN "check_saved" "Reservoir.check_saved" s_check_saved ["self"] := fun _ _ _ _ _ _ us hl => match us, hl with | [_], _ => rfl
theorem bi_set_rock_capacity : BindsN "set_rock_capacity" "Reservoir.set_rock_capacity" s_set_rock_capacity ["self", "cell", "rock_capacity"] := fun _ _ _ _ _ _ us hl => match us, hl with | [_, _, _], _ => rfl
theorem bi_set_temperature : BindsN "set_temperature" "Reservoir.set_temperature" s_set_temperature ["self", "cell", "temperature"] := fun _ _ _ _ _ _ us hl => match us, hl with | [_, _, _], _ => rfl
theorem bi_set_all_temperatures : BindsN "set_all_temperatures" "Reservoir.set_all_temperatures" s_set_all_temperatures ["self", "temperature"] := fun _ _ _ _ _ _ us hl => match us, hl with | [_, _], _ => rfl
theorem bi_set_injection_temperature : BindsN "set_injection_temperature" "Reservoir.set_injection_temperature" s_set_injection_temperature ["self", "temperature"] := fun _ _ _ _ _ _ us hl => match us, hl with | [_, _], _ => rfl
theorem bi_run_steps : BindsN "run_steps" "Reservoir.run_steps" s_run_steps ["self", "steps"] := fun _ _ _ _ _ _ us hl => match us, hl with | [_, _], _ => rfl
theorem bi_advance : BindsN "advance" "Reservoir.advance" s_advance ["self"] := fun _ _ _ _ _ _ us hl => match us, hl with | [_], _ => rfl
theorem bi_advance_many : BindsN "advance_many" "Reservoir.advance_many" s_advance_many ["self", "steps"] := fun _ _ _ _ _ _ us hl => match us, hl with | [_, _], _ => rfl
theorem bi_equilibrate : BindsN "equilibrate" "Reservoir.equilibrate" s_equilibrate ["self"] := fun _ _ _ _ _ _ us hl => match us, hl with | [_], _ => rfl
theorem bi_next_parcels : BindsN "next_parcels" "Reservoir.next_parcels" s_next_parcels ["self", "count"] := fun _ _ _ _ _ _ us hl => match us, hl with | [_, _], _ => rfl
theorem bi_forecast : BindsN "forecast" "Reservoir.forecast" s_forecast ["self", "count"] := fun _ _ _ _ _ _ us hl => match us, hl with | [_, _], _ => rfl
theorem bi_get_cell : BindsN "get_cell" "Reservoir.get_cell" s_get_cell ["self", "cell"] := fun _ _ _ _ _ _ us hl => match us, hl with | [_, _], _ => rfl
theorem bi_total_heat : BindsN "total_heat" "Reservoir.total_heat" s_total_heat ["self"] := fun _ _ _ _ _ _ us hl => match us, hl with | [_], _ => rfl
theorem bi_balance : BindsN "balance" "Reservoir.balance" s_balance ["self"] := fun _ _ _ _ _ _ us hl => match us, hl with | [_], _ => rfl
theorem bi_hottest : BindsN "hottest" "Reservoir.hottest" s_hottest ["self"] := fun _ _ _ _ _ _ us hl => match us, hl with | [_], _ => rfl
theorem bi_coldest : BindsN "coldest" "Reservoir.coldest" s_coldest ["self"] := fun _ _ _ _ _ _ us hl => match us, hl with | [_], _ => rfl
theorem bi_breakthrough : BindsN "breakthrough" "Reservoir.breakthrough" s_breakthrough ["self", "temperature"] := fun _ _ _ _ _ _ us hl => match us, hl with | [_, _], _ => rfl
theorem bi_save_profile : BindsN "save_profile" "Reservoir.save_profile" s_save_profile ["self"] := fun _ _ _ _ _ _ us hl => match us, hl with | [_], _ => rfl
theorem bi_compare_with_saved : BindsN "compare_with_saved" "Reservoir.compare_with_saved" s_compare_with_saved ["self"] := fun _ _ _ _ _ _ us hl => match us, hl with | [_], _ => rfl
theorem bi_average_with_saved : BindsN "average_with_saved" "Reservoir.average_with_saved" s_average_with_saved ["self"] := fun _ _ _ _ _ _ us hl => match us, hl with | [_], _ => rfl
theorem bi_reverse : BindsN "reverse" "Reservoir.reverse" s_reverse ["self"] := fun _ _ _ _ _ _ us hl => match us, hl with | [_], _ => rfl
theorem bi_excess_heat : BindsN "excess_heat" "Reservoir.excess_heat" s_excess_heat ["self", "temperature"] := fun _ _ _ _ _ _ us hl => match us, hl with | [_, _], _ => rfl
theorem bi_summary : BindsN "summary" "Reservoir.summary" s_summary ["self"] := fun _ _ _ _ _ _ us hl => match us, hl with | [_], _ => rfl
theorem bi_perform_setting : BindsN "perform_setting" "perform_setting" s_perform_setting ["reservoir", "call", "arguments"] := fun _ _ _ _ _ _ us hl => match us, hl with | [_, _, _], _ => rfl
theorem bi_perform_steps : BindsN "perform_steps" "perform_steps" s_perform_steps ["reservoir", "call", "arguments"] := fun _ _ _ _ _ _ us hl => match us, hl with | [_, _, _], _ => rfl
theorem bi_perform_report : BindsN "perform_report" "perform_report" s_perform_report ["reservoir", "call", "arguments"] := fun _ _ _ _ _ _ us hl => match us, hl with | [_, _, _], _ => rfl
theorem bi_perform_profile : BindsN "perform_profile" "perform_profile" s_perform_profile ["reservoir", "call", "arguments"] := fun _ _ _ _ _ _ us hl => match us, hl with | [_, _, _], _ => rfl
theorem bi_Session_init : BindsN "__init__" "Session.__init__" s_Session_init ["self"] := fun _ _ _ _ _ _ us hl => match us, hl with | [_], _ => rfl
theorem bi_perform : BindsN "perform" "Session.perform" s_perform ["self", "call", "arguments"] := fun _ _ _ _ _ _ us hl => match us, hl with | [_, _, _], _ => rfl
theorem bi_answer : BindsN "answer" "Session.answer" s_answer ["self", "call", "arguments"] := fun _ _ _ _ _ _ us hl => match us, hl with | [_, _, _], _ => rfl
theorem bi_answers : BindsN "answers" "answers" s_answers ["calls"] := fun _ _ _ _ _ _ us hl => match us, hl with | [_], _ => rfl
section
variable {P : Program} {w : World} {K : PySem.W.Frag} {h : Heap} {mg : Str → Option Value} {fa CR CV CS : Addr}
theorem fin (T : Txt K mg CR CV CS) (hfa : mg "answers" = some (.ref fa)) :
    ∃ fd : FuncData, (∀ (s : Shared) (us : List Value), us.length = (["calls"] : List Str).length → BindsTo s fd ⟨us, []⟩ ((["calls"] : List Str).zip us)) ∧ ∀ base : Heap, K.In base → base.Ns mainGlobals mg → FnOk P w K mg base CX0 13 fa fd ["calls"] (spAns K) := by
  obtain ⟨f, fd, D⟩ := T.d_answers
  have e := hfa.symm.trans D.g
  cases e
  refine ⟨fd, ?_, fun base _ _ => ok_answers T D.F⟩
  obtain ⟨oc, od, kV, doc, pm, an, cdv, ct, osl, rfl, lk, hcd⟩ := D.F.ex
  exact fun s us hu => .of_eq (bi_answers _ _ _ _ _ _ us hu)
theorem fin_at (X : K.In h) (G : h.Ns mainGlobals mg) (hfa : mg "answers" = some (.ref fa)) (gR : PySem.W.nsIn K mainGlobals "Refusal" = some (some (.ref CR))) (gV : PySem.W.nsIn K mainGlobals "Reservoir" = some (some (.ref CV))) (gS : PySem.W.nsIn K mainGlobals "Session" = some (some (.ref CS)))
    (T : mg "Refusal" = some (.ref CR) → mg "Reservoir" = some (.ref CV) → mg "Session" = some (.ref CS) → Txt K mg CR CV CS) :
    ∃ fd : FuncData, (∀ (s : Shared) (us : List Value), us.length = (["calls"] : List Str).length → BindsTo s fd ⟨us, []⟩ ((["calls"] : List Str).zip us)) ∧ ∀ base : Heap, K.In base → base.Ns mainGlobals mg → FnOk P w K mg base CX0 13 fa fd ["calls"] (spAns K) :=
  fin (T (PySem.W.mg_of X G gR) (PySem.W.mg_of X G gV) (PySem.W.mg_of X G gS)) hfa
end
end L2.CfX

end
open PySem PySem.W PyProof.Rows
set_option maxRecDepth 100000 in
set_option maxHeartbeats 8000000 in
theorem PySem.Challenge.cw_coldfrontrow_s01_answers_holds : PySem.Challenge.rw_coldfrontrow_s01_answers.Holds := by
  w_on; k_headS; (case hw => exact ⟨[.list [.int 20]], by decide +kernel, by decide +kernel⟩)
  k_fillS
  refine L2.walk_specK (r := PySem.Challenge.rw_coldfrontrow_s01_answers) (k := 13) (CX := L2.CX0) (ps := ["calls"]) (sp := L2.CfX.spAns) (by decide +kernel) rfl rfl ⟨rfl, by decide, by decide⟩ (fun w h Y => PySem.W.kIn_of Y) ?F ?S (fun _ _ _ _ z => z)
  case F =>
    intro w mg fa h Y KX G hmg
    refine' L2.CfX.fin_at KX G hmg ?gR ?gV ?gS ?T
    (case gR => k_is); (case gV => k_is); (case gS => k_is)
    case T =>
      intro gR gV gS
      refine' { rc := ?rc, xf := ?xf, noCode := ?noCode, gR := ?gR, eR := ?eR, clR := ?clR, clS := ?clS, m_Exception := ?m_Exception, v_Exc := ?v_Exc, m_len := ?m_len, m_abs := ?m_abs, m_sum := ?m_sum, m_any := ?m_any, m_list := ?m_list, m_int := ?m_int, m_range := ?m_range, m_zip := ?m_zip, m_enumerate := ?m_enumerate, a_row := ?a_row, a_injection := ?a_injection, a_injected_sum := ?a_injected_sum, a_produced_sum := ?a_produced_sum, a_produced_count := ?a_produced_count, a_has_saved := ?a_has_saved, a_saved_row := ?a_saved_row, a_has_reservoir := ?a_has_reservoir, a_reservoir := ?a_reservoir, g_ZERO := ?g_ZERO, g_NUMBERS := ?g_NUMBERS, g_NO_RESERVOIR := ?g_NO_RESERVOIR, g_NO_CELL := ?g_NO_CELL, g_NO_PROFILE := ?g_NO_PROFILE, g_OUT_OF_RANGE := ?g_OUT_OF_RANGE, g_NO_BREAKTHROUGH := ?g_NO_BREAKTHROUGH, g_OTHER_CELLS := ?g_OTHER_CELLS, g_TOO_LARGE := ?g_TOO_LARGE, g_MOST_CELLS := ?g_MOST_CELLS, g_MOST_CAPACITY := ?g_MOST_CAPACITY, g_MOST_TEMPERATURE := ?g_MOST_TEMPERATURE, g_MOST_STEPS := ?g_MOST_STEPS, g_MOST_DENOMINATOR := ?g_MOST_DENOMINATOR, g_CREATE := ?g_CREATE, d_split_calls := ?d_split_calls, d_Refusal_init := ?d_Refusal_init, d_refuse_if := ?d_refuse_if, d_common_divisor := ?d_common_divisor, d_ratio := ?d_ratio, d_whole := ?d_whole, d_plus := ?d_plus, d_times := ?d_times, d_divided := ?d_divided, d_is_below := ?d_is_below, d_sum_of := ?d_sum_of, d_greatest_of := ?d_greatest_of, d_least_of := ?d_least_of, d_equilibrated := ?d_equilibrated, d_all_equilibrated := ?d_all_equilibrated, d_moved := ?d_moved, d_after_step := ?d_after_step, d_last_water := ?d_last_water, d_after_steps := ?d_after_steps, d_temperatures_of := ?d_temperatures_of, d_with_temperature := ?d_with_temperature, d_with_cell := ?d_with_cell, d_heat_of := ?d_heat_of, d_capacities_of := ?d_capacities_of, d_is_nowhere_colder := ?d_is_nowhere_colder, d_mean_row := ?d_mean_row, d_check_temperature := ?d_check_temperature, d_check_denominators := ?d_check_denominators, d_Reservoir_init := ?d_Reservoir_init, d_check_cell := ?d_check_cell, d_check_saved := ?d_check_saved, d_set_rock_capacity := ?d_set_rock_capacity, d_set_temperature := ?d_set_temperature, d_set_all_temperatures := ?d_set_all_temperatures, d_set_injection_temperature := ?d_set_injection_temperature, d_run_steps := ?d_run_steps, d_advance := ?d_advance, d_advance_many := ?d_advance_many, d_equilibrate := ?d_equilibrate, d_next_parcels := ?d_next_parcels, d_forecast := ?d_forecast, d_get_cell := ?d_get_cell, d_total_heat := ?d_total_heat, d_balance := ?d_balance, d_hottest := ?d_hottest, d_coldest := ?d_coldest, d_breakthrough := ?d_breakthrough, d_save_profile := ?d_save_profile, d_compare_with_saved := ?d_compare_with_saved, d_average_with_saved := ?d_average_with_saved, d_reverse := ?d_reverse, d_excess_heat := ?d_excess_heat, d_summary := ?d_summary, d_perform_setting := ?d_perform_setting, d_perform_steps := ?d_perform_steps, d_perform_report := ?d_perform_report, d_perform_profile := ?d_perform_profile, d_Session_init := ?d_Session_init, d_perform := ?d_perform, d_answer := ?d_answer, d_answers := ?d_answers }
      (case rc => refine' L2.CfX.refc_mk ?l ?sa ?e ?t ?k; (case l => k_is); (case sa => k_is); (case e => k_is); (case t => k_is); (case k => k_is))
      (case xf => refine' ⟨?ga, ?gg, ?ex, ?hd⟩; (case ga => k_is); (case gg => k_is); (case ex => k_is); (case hd => k_is))
      (case noCode => k_is)
      (case gR => exact gR)
      (case eR => refine' L2.CfX.exm_self ?h1 ?h2 ?h3 ?h4; (case h1 => k_is); (case h2 => k_is); (case h3 => k_is); (case h4 => first | rfl | k_is))
      (case clR => refine' ⟨?pg, ?hd, ?po, ?sa⟩; (case pg => k_is); (case hd => k_is); (case po => k_is); (case sa => k_is))
      (case clS => refine' ⟨?pg, ?hd, ?po, ?sa⟩; (case pg => k_is); (case hd => k_is); (case po => k_is); (case sa => k_is))
      (case m_Exception => refine' PySem.W.mg_none_of KX G ?a; (case a => k_is))
      (case m_len => refine' PySem.W.mg_none_of KX G ?a; (case a => k_is))
      (case m_abs => refine' PySem.W.mg_none_of KX G ?a; (case a => k_is))
      (case m_sum => refine' PySem.W.mg_none_of KX G ?a; (case a => k_is))
      (case m_any => refine' PySem.W.mg_none_of KX G ?a; (case a => k_is))
      (case m_list => refine' PySem.W.mg_none_of KX G ?a; (case a => k_is))
      (case m_int => refine' PySem.W.mg_none_of KX G ?a; (case a => k_is))
      (case m_range => refine' PySem.W.mg_none_of KX G ?a; (case a => k_is))
      (case m_zip => refine' PySem.W.mg_none_of KX G ?a; (case a => k_is))
      (case m_enumerate => refine' PySem.W.mg_none_of KX G ?a; (case a => k_is))
      (case v_Exc => k_is)
      (case a_row => show PySem.W.findIn _ _ _ = _; k_is)
      (case a_injection => show PySem.W.findIn _ _ _ = _; k_is)
      (case a_injected_sum => show PySem.W.findIn _ _ _ = _; k_is)
      (case a_produced_sum => show PySem.W.findIn _ _ _ = _; k_is)
      (case a_produced_count => show PySem.W.findIn _ _ _ = _; k_is)
      (case a_has_saved => show PySem.W.findIn _ _ _ = _; k_is)
      (case a_saved_row => show PySem.W.findIn _ _ _ = _; k_is)
      (case a_has_reservoir => show PySem.W.findIn _ _ _ = _; k_is)
      (case a_reservoir => show PySem.W.findIn _ _ _ = _; k_is)
      (case g_ZERO => refine' L2.CfX.ktup_mk (is := [0, 1]) KX G ?a ?l ?s ?v; (case a => k_is); (case l => k_is); (case s => decide +kernel); (case v => decide +kernel))
      (case g_NUMBERS => refine' L2.CfX.ktup_mk (is := [1, 2, 2, 1, 1, 0, 1, 0, 1, 1, 0, 0, 0, 0, 1, 0, 0, 0, 0, 1, 0]) KX G ?a ?l ?s ?v; (case a => k_is); (case l => k_is); (case s => decide +kernel); (case v => decide +kernel))
      (case g_NO_RESERVOIR => refine' L2.CfX.gint_mk KX G ?a ?e; (case a => k_is); (case e => decide +kernel))
      (case g_NO_CELL => refine' L2.CfX.gint_mk KX G ?a ?e; (case a => k_is); (case e => decide +kernel))
      (case g_NO_PROFILE => refine' L2.CfX.gint_mk KX G ?a ?e; (case a => k_is); (case e => decide +kernel))
      (case g_OUT_OF_RANGE => refine' L2.CfX.gint_mk KX G ?a ?e; (case a => k_is); (case e => decide +kernel))
      (case g_NO_BREAKTHROUGH => refine' L2.CfX.gint_mk KX G ?a ?e; (case a => k_is); (case e => decide +kernel))
      (case g_OTHER_CELLS => refine' L2.CfX.gint_mk KX G ?a ?e; (case a => k_is); (case e => decide +kernel))
      (case g_TOO_LARGE => refine' L2.CfX.gint_mk KX G ?a ?e; (case a => k_is); (case e => decide +kernel))
      (case g_MOST_CELLS => refine' L2.CfX.gint_mk KX G ?a ?e; (case a => k_is); (case e => decide +kernel))
      (case g_MOST_CAPACITY => refine' L2.CfX.gint_mk KX G ?a ?e; (case a => k_is); (case e => decide +kernel))
      (case g_MOST_TEMPERATURE => refine' L2.CfX.gint_mk KX G ?a ?e; (case a => k_is); (case e => decide +kernel))
      (case g_MOST_STEPS => refine' L2.CfX.gint_mk KX G ?a ?e; (case a => k_is); (case e => decide +kernel))
      (case g_MOST_DENOMINATOR => refine' L2.CfX.gint_mk KX G ?a ?e; (case a => k_is); (case e => decide +kernel))
      (case g_CREATE => refine' L2.CfX.gint_mk KX G ?a ?e; (case a => k_is); (case e => decide +kernel))
      (case d_split_calls => refine' L2.CfX.df_mk KX G L2.CfX.bi_split_calls ?a ?l ?c ?k; (case a => k_is); (case l => k_is); (case c => k_is); (case k => k_is))
      (case d_Refusal_init => refine' L2.CfX.ez_mk gR L2.CfX.bi_Refusal_init ?a ?l ?c ?k ?t; (case a => k_is); (case l => k_is); (case c => k_is); (case k => k_is); (case t => k_is))
      (case d_refuse_if => refine' L2.CfX.df_mk KX G L2.CfX.bi_refuse_if ?a ?l ?c ?k; (case a => k_is); (case l => k_is); (case c => k_is); (case k => k_is))
      (case d_common_divisor => refine' L2.CfX.df_mk KX G L2.CfX.bi_common_divisor ?a ?l ?c ?k; (case a => k_is); (case l => k_is); (case c => k_is); (case k => k_is))
      (case d_ratio => refine' L2.CfX.df_mk KX G L2.CfX.bi_ratio ?a ?l ?c ?k; (case a => k_is); (case l => k_is); (case c => k_is); (case k => k_is))
      (case d_whole => refine' L2.CfX.df_mk KX G L2.CfX.bi_whole ?a ?l ?c ?k; (case a => k_is); (case l => k_is); (case c => k_is); (case k => k_is))
      (case d_plus => refine' L2.CfX.df_mk KX G L2.CfX.bi_plus ?a ?l ?c ?k; (case a => k_is); (case l => k_is); (case c => k_is); (case k => k_is))
      (case d_times => refine' L2.CfX.df_mk KX G L2.CfX.bi_times ?a ?l ?c ?k; (case a => k_is); (case l => k_is); (case c => k_is); (case k => k_is))
      (case d_divided => refine' L2.CfX.df_mk KX G L2.CfX.bi_divided ?a ?l ?c ?k; (case a => k_is); (case l => k_is); (case c => k_is); (case k => k_is))
      (case d_is_below => refine' L2.CfX.df_mk KX G L2.CfX.bi_is_below ?a ?l ?c ?k; (case a => k_is); (case l => k_is); (case c => k_is); (case k => k_is))
      (case d_sum_of => refine' L2.CfX.df_mk KX G L2.CfX.bi_sum_of ?a ?l ?c ?k; (case a => k_is); (case l => k_is); (case c => k_is); (case k => k_is))
      (case d_greatest_of => refine' L2.CfX.df_mk KX G L2.CfX.bi_greatest_of ?a ?l ?c ?k; (case a => k_is); (case l => k_is); (case c => k_is); (case k => k_is))
      (case d_least_of => refine' L2.CfX.df_mk KX G L2.CfX.bi_least_of ?a ?l ?c ?k; (case a => k_is); (case l => k_is); (case c => k_is); (case k => k_is))
      (case d_equilibrated => refine' L2.CfX.df_mk KX G L2.CfX.bi_equilibrated ?a ?l ?c ?k; (case a => k_is); (case l => k_is); (case c => k_is); (case k => k_is))
      (case d_all_equilibrated => refine' L2.CfX.df_mk KX G L2.CfX.bi_all_equilibrated ?a ?l ?c ?k; (case a => k_is); (case l => k_is); (case c => k_is); (case k => k_is))
      (case d_moved => refine' L2.CfX.df_mk KX G L2.CfX.bi_moved ?a ?l ?c ?k; (case a => k_is); (case l => k_is); (case c => k_is); (case k => k_is))
      (case d_after_step => refine' L2.CfX.df_mk KX G L2.CfX.bi_after_step ?a ?l ?c ?k; (case a => k_is); (case l => k_is); (case c => k_is); (case k => k_is))
      (case d_last_water => refine' L2.CfX.df_mk KX G L2.CfX.bi_last_water ?a ?l ?c ?k; (case a => k_is); (case l => k_is); (case c => k_is); (case k => k_is))
      (case d_after_steps => refine' L2.CfX.df_mk KX G L2.CfX.bi_after_steps ?a ?l ?c ?k; (case a => k_is); (case l => k_is); (case c => k_is); (case k => k_is))
      (case d_temperatures_of => refine' L2.CfX.df_mk KX G L2.CfX.bi_temperatures_of ?a ?l ?c ?k; (case a => k_is); (case l => k_is); (case c => k_is); (case k => k_is))
      (case d_with_temperature => refine' L2.CfX.df_mk KX G L2.CfX.bi_with_temperature ?a ?l ?c ?k; (case a => k_is); (case l => k_is); (case c => k_is); (case k => k_is))
      (case d_with_cell => refine' L2.CfX.df_mk KX G L2.CfX.bi_with_cell ?a ?l ?c ?k; (case a => k_is); (case l => k_is); (case c => k_is); (case k => k_is))
      (case d_heat_of => refine' L2.CfX.df_mk KX G L2.CfX.bi_heat_of ?a ?l ?c ?k; (case a => k_is); (case l => k_is); (case c => k_is); (case k => k_is))
      (case d_capacities_of => refine' L2.CfX.df_mk KX G L2.CfX.bi_capacities_of ?a ?l ?c ?k; (case a => k_is); (case l => k_is); (case c => k_is); (case k => k_is))
      (case d_is_nowhere_colder => refine' L2.CfX.df_mk KX G L2.CfX.bi_is_nowhere_colder ?a ?l ?c ?k; (case a => k_is); (case l => k_is); (case c => k_is); (case k => k_is))
      (case d_mean_row => refine' L2.CfX.df_mk KX G L2.CfX.bi_mean_row ?a ?l ?c ?k; (case a => k_is); (case l => k_is); (case c => k_is); (case k => k_is))
      (case d_check_temperature => refine' L2.CfX.df_mk KX G L2.CfX.bi_check_temperature ?a ?l ?c ?k; (case a => k_is); (case l => k_is); (case c => k_is); (case k => k_is))
      (case d_check_denominators => refine' L2.CfX.df_mk KX G L2.CfX.bi_check_denominators ?a ?l ?c ?k; (case a => k_is); (case l => k_is); (case c => k_is); (case k => k_is))
      (case d_Reservoir_init => refine' L2.CfX.cz_mk gV L2.CfX.bi_Reservoir_init ?a ?l ?c ?k ?i ?ma ?kC; (case a => k_is); (case l => k_is); (case c => k_is); (case k => k_is); (case i => k_is); (case ma => k_is); (case kC => k_is))
      (case d_check_cell => refine' L2.CfX.mt_mk L2.CfX.bi_check_cell ?a ?l ?c ?k ?i; (case a => k_is); (case l => k_is); (case c => k_is); (case k => k_is); (case i => k_is))
      (case d_check_saved => refine' L2.CfX.mt_mk L2.CfX.bi_check_saved ?a ?l ?c ?k ?i; (case a => k_is); (case l => k_is); (case c => k_is); (case k => k_is); (case i => k_is))
      (case d_set_rock_capacity => refine' L2.CfX.mt_mk L2.CfX.bi_set_rock_capacity ?a ?l ?c ?k ?i; (case a => k_is); (case l => k_is); (case c => k_is); (case k => k_is); (case i => k_is))
      (case d_set_temperature => refine' L2.CfX.mt_mk L2.CfX.bi_set_temperature ?a ?l ?c ?k ?i; (case a => k_is); (case l => k_is); (case c => k_is); (case k => k_is); (case i => k_is))
      (case d_set_all_temperatures => refine' L2.CfX.mt_mk L2.CfX.bi_set_all_temperatures ?a ?l ?c ?k ?i; (case a => k_is); (case l => k_is); (case c => k_is); (case k => k_is); (case i => k_is))
      (case d_set_injection_temperature => refine' L2.CfX.mt_mk L2.CfX.bi_set_injection_temperature ?a ?l ?c ?k ?i; (case a => k_is); (case l => k_is); (case c => k_is); (case k => k_is); (case i => k_is))
      (case d_run_steps => refine' L2.CfX.mt_mk L2.CfX.bi_run_steps ?a ?l ?c ?k ?i; (case a => k_is); (case l => k_is); (case c => k_is); (case k => k_is); (case i => k_is))
      (case d_advance => refine' L2.CfX.mt_mk L2.CfX.bi_advance ?a ?l ?c ?k ?i; (case a => k_is); (case l => k_is); (case c => k_is); (case k => k_is); (case i => k_is))
      (case d_advance_many => refine' L2.CfX.mt_mk L2.CfX.bi_advance_many ?a ?l ?c ?k ?i; (case a => k_is); (case l => k_is); (case c => k_is); (case k => k_is); (case i => k_is))
      (case d_equilibrate => refine' L2.CfX.mt_mk L2.CfX.bi_equilibrate ?a ?l ?c ?k ?i; (case a => k_is); (case l => k_is); (case c => k_is); (case k => k_is); (case i => k_is))
      (case d_next_parcels => refine' L2.CfX.mt_mk L2.CfX.bi_next_parcels ?a ?l ?c ?k ?i; (case a => k_is); (case l => k_is); (case c => k_is); (case k => k_is); (case i => k_is))
      (case d_forecast => refine' L2.CfX.mt_mk L2.CfX.bi_forecast ?a ?l ?c ?k ?i; (case a => k_is); (case l => k_is); (case c => k_is); (case k => k_is); (case i => k_is))
      (case d_get_cell => refine' L2.CfX.mt_mk L2.CfX.bi_get_cell ?a ?l ?c ?k ?i; (case a => k_is); (case l => k_is); (case c => k_is); (case k => k_is); (case i => k_is))
      (case d_total_heat => refine' L2.CfX.mt_mk L2.CfX.bi_total_heat ?a ?l ?c ?k ?i; (case a => k_is); (case l => k_is); (case c => k_is); (case k => k_is); (case i => k_is))
      (case d_balance => refine' L2.CfX.mt_mk L2.CfX.bi_balance ?a ?l ?c ?k ?i; (case a => k_is); (case l => k_is); (case c => k_is); (case k => k_is); (case i => k_is))
      (case d_hottest => refine' L2.CfX.mt_mk L2.CfX.bi_hottest ?a ?l ?c ?k ?i; (case a => k_is); (case l => k_is); (case c => k_is); (case k => k_is); (case i => k_is))
      (case d_coldest => refine' L2.CfX.mt_mk L2.CfX.bi_coldest ?a ?l ?c ?k ?i; (case a => k_is); (case l => k_is); (case c => k_is); (case k => k_is); (case i => k_is))
      (case d_breakthrough => refine' L2.CfX.mt_mk L2.CfX.bi_breakthrough ?a ?l ?c ?k ?i; (case a => k_is); (case l => k_is); (case c => k_is); (case k => k_is); (case i => k_is))
      (case d_save_profile => refine' L2.CfX.mt_mk L2.CfX.bi_save_profile ?a ?l ?c ?k ?i; (case a => k_is); (case l => k_is); (case c => k_is); (case k => k_is); (case i => k_is))
      (case d_compare_with_saved => refine' L2.CfX.mt_mk L2.CfX.bi_compare_with_saved ?a ?l ?c ?k ?i; (case a => k_is); (case l => k_is); (case c => k_is); (case k => k_is); (case i => k_is))
      (case d_average_with_saved => refine' L2.CfX.mt_mk L2.CfX.bi_average_with_saved ?a ?l ?c ?k ?i; (case a => k_is); (case l => k_is); (case c => k_is); (case k => k_is); (case i => k_is))
      (case d_reverse => refine' L2.CfX.mt_mk L2.CfX.bi_reverse ?a ?l ?c ?k ?i; (case a => k_is); (case l => k_is); (case c => k_is); (case k => k_is); (case i => k_is))
      (case d_excess_heat => refine' L2.CfX.mt_mk L2.CfX.bi_excess_heat ?a ?l ?c ?k ?i; (case a => k_is); (case l => k_is); (case c => k_is); (case k => k_is); (case i => k_is))
      (case d_summary => refine' L2.CfX.mt_mk L2.CfX.bi_summary ?a ?l ?c ?k ?i; (case a => k_is); (case l => k_is); (case c => k_is); (case k => k_is); (case i => k_is))
      (case d_perform_setting => refine' L2.CfX.df_mk KX G L2.CfX.bi_perform_setting ?a ?l ?c ?k; (case a => k_is); (case l => k_is); (case c => k_is); (case k => k_is))
      (case d_perform_steps => refine' L2.CfX.df_mk KX G L2.CfX.bi_perform_steps ?a ?l ?c ?k; (case a => k_is); (case l => k_is); (case c => k_is); (case k => k_is))
      (case d_perform_report => refine' L2.CfX.df_mk KX G L2.CfX.bi_perform_report ?a ?l ?c ?k; (case a => k_is); (case l => k_is); (case c => k_is); (case k => k_is))
      (case d_perform_profile => refine' L2.CfX.df_mk KX G L2.CfX.bi_perform_profile ?a ?l ?c ?k; (case a => k_is); (case l => k_is); (case c => k_is); (case k => k_is))
      (case d_Session_init => refine' L2.CfX.cz_mk gS L2.CfX.bi_Session_init ?a ?l ?c ?k ?i ?ma ?kC; (case a => k_is); (case l => k_is); (case c => k_is); (case k => k_is); (case i => k_is); (case ma => k_is); (case kC => k_is))
      (case d_perform => refine' L2.CfX.mt_mk L2.CfX.bi_perform ?a ?l ?c ?k ?i; (case a => k_is); (case l => k_is); (case c => k_is); (case k => k_is); (case i => k_is))
      (case d_answer => refine' L2.CfX.mt_mk L2.CfX.bi_answer ?a ?l ?c ?k ?i; (case a => k_is); (case l => k_is); (case c => k_is); (case k => k_is); (case i => k_is))
      (case d_answers => refine' L2.CfX.df_mk KX G L2.CfX.bi_answers ?a ?l ?c ?k; (case a => k_is); (case l => k_is); (case c => k_is); (case k => k_is))
  case S =>
    intro K H xs a hO hwi hask hx
    cases hx with
    | cons h1 h2 =>
      cases h2
      cases h1 with
      | lst hs ha =>
        have e := L2.ints_dw a.1 _ ha
        subst e
        have q : ((Codec.inLen 0 600 a.1 && a.1.all (Codec.inInt 0 4294967295)) && true) = true := hwi
        rw [Bool.and_eq_true, Bool.and_eq_true] at q
        exact ⟨_, a.1, rfl, hs, (Codec.inNat_iff.mp q.1.1).2, fun z hz => (Codec.inInt_iff.mp (List.all_eq_true.mp q.1.2 z hz)).imp id Int.lt_add_one_of_le, hask, fun H' p hp => .lst (L2.SqL.of hp) (L2.dw_ints _)⟩
#print axioms PySem.Challenge.cw_coldfrontrow_s01_answers_holds
