/- Texts put together: Mont5, Mont6, Mont7, Mont8, Mont9, Field1, Field2, Hex, Number, Prime, Primes, Ring, GroupP, Fields, Eff. Conditions: those of each part. -/
import Derived.Test.YtjokcbjahidckaaGreatG00
import Derived.Deep.RegionLaw
import Derived.Laws.RangeString
import Derived.Orders
set_option linter.unusedVariables false
/-! mont: elements in Montgomery's form as numbers modulo the prime; To, From, Square, Prime. Conditions: a field lies there. -/
namespace Go.Proofs.YtjokcbjahidckaaGreat
open Go.RowKit

/-- The element of the number x. -/
def me (p n x : Nat) : Value := elv (x * B64 ^ n % p)

theorem me_mod (p n x : Nat) : me p n (x % p) = me p n x := by unfold me; rw [Nat.mod_mul_mod]

/-- R can be taken away modulo p. -/
theorem r_cancel {p v : Nat} (n : Nat) (h : (p * v + 1) % B64 = 0) {a b : Nat} (e : a * B64 ^ n % p = b * B64 ^ n % p) : a % p = b % p := by
  obtain ⟨k, hk⟩ : ∃ k, p * v + 1 = B64 * k := ⟨(p * v + 1) / B64, by rw [Nat.mul_div_cancel' (Nat.dvd_of_mod_eq_zero h)]⟩
  have h1 : ∀ m, (B64 * k) ^ m % p = 1 % p := by
    intro m
    induction m with
    | zero => rfl
    | succ m ih => rw [Nat.pow_succ, Nat.mul_mod, ih, ← hk, Nat.mul_add_mod, ← Nat.mul_mod, Nat.one_mul]
  have h2 : ∀ x, x * B64 ^ n * k ^ n % p = x % p := by
    intro x
    rw [Nat.mul_assoc, ← Nat.mul_pow, Nat.mul_mod, h1, ← Nat.mul_mod, Nat.mul_one]
  rw [← h2 a, ← h2 b, Nat.mul_mod, e, ← Nat.mul_mod]

theorem me_inj {p v n x y : Nat} (h : (p * v + 1) % B64 = 0) (h6 : n ≤ 6) (hp : p < B64 ^ n) (p1 : 0 < p) : me p n x = me p n y ↔ x % p = y % p := by
  constructor
  · intro e
    apply r_cancel n h
    unfold me elv at e
    injection e with e
    have e1 : digs B64 6 (x * B64 ^ n % p) = digs B64 6 (y * B64 ^ n % p) := by
      unfold cellsOf at e
      have := List.toArray_inj e
      refine List.map_inj_right ?_ |>.1 this
      intro a b hab
      injection hab with _ hab
      exact Int.ofNat.inj hab
    have e2 := congrArg (ofD B64) e1
    have hl : ∀ z, z % p < B64 ^ 6 := fun z => Nat.lt_of_lt_of_le (Nat.lt_trans (Nat.mod_lt _ p1) hp) (Nat.pow_le_pow_right (by decide) h6)
    rwa [ofD_digs, ofD_digs, Nat.mod_eq_of_lt (hl _), Nat.mod_eq_of_lt (hl _)] at e2
  · intro e
    rw [← me_mod p n x, ← me_mod p n y, e]

theorem me_mul (a p n v x y : Nat) (w : World) (hF : FldAt w a p n v) : Calls Tryz.prog 307 #[.pointer (some ⟨a, 0, none⟩), me p n x, me p n y] w (Ret w (me p n (x * y))) := by
  have p0 : 0 < p := by have := hF.p1; omega
  refine (mmul_any a p n v _ _ w hF (Nat.mod_lt _ p0) (Nat.mod_lt _ p0)).mono ?_
  rintro e w' ⟨r, hr, ⟨M, N, h⟩, he⟩
  have h1 : r * B64 ^ n % p = x * y * B64 ^ n * B64 ^ n % p := by
    have h2 := congrArg (· % p) h
    simp only [Nat.add_mul_mod_self_right] at h2
    rw [h2, ← Nat.mul_mod]
    congr 1
    rw [Nat.mul_mul_mul_comm, Nat.mul_assoc (x * y)]
  have h3 := r_cancel n hF.pv h1
  rw [Nat.mod_eq_of_lt hr] at h3
  rw [h3] at he
  exact he

theorem me_add (a p n v x y : Nat) (w : World) (hF : FldAt w a p n v) : Calls Tryz.prog 310 #[.pointer (some ⟨a, 0, none⟩), me p n x, me p n y] w (Ret w (me p n (x + y))) := by
  have p0 : 0 < p := by have := hF.p1; omega
  have := madd_any a p n v _ _ w hF (Nat.mod_lt (x * B64 ^ n) p0) (Nat.mod_lt (y * B64 ^ n) p0)
  rw [← Nat.add_mod, ← Nat.add_mul] at this
  exact this

theorem sub_mod' {p a b : Nat} (p0 : 0 < p) : (a + (p - b % p)) % p = (a + (p - 1) * b) % p := by
  have h : (p - b % p) % p = ((p - 1) * b) % p := by
    obtain ⟨q, hq⟩ : ∃ q, p = q + 1 := ⟨p - 1, by omega⟩
    have h1 : (p - 1) * b % p = (p - 1) * (b % p) % p := by rw [Nat.mul_mod_mod]
    rw [h1]
    have hb := Nat.mod_lt b p0
    generalize b % p = c at *
    rcases Nat.eq_zero_or_pos c with h0 | h0
    · rw [h0, Nat.mul_zero, Nat.sub_zero, Nat.mod_self, Nat.zero_mod]
    · have : (p - 1) * c = (p - c) + (c - 1) * p := by
        obtain ⟨d, rfl⟩ : ∃ d, c = d + 1 := ⟨c - 1, by omega⟩
        subst hq
        rw [Nat.add_sub_cancel, Nat.add_sub_cancel, Nat.mul_add, Nat.mul_add, Nat.mul_comm q d]
        omega
      rw [this, Nat.add_mul_mod_self_right]
  rw [Nat.add_mod, h, ← Nat.add_mod]

theorem me_sub (a p n v x y : Nat) (w : World) (hF : FldAt w a p n v) : Calls Tryz.prog 313 #[.pointer (some ⟨a, 0, none⟩), me p n x, me p n y] w (Ret w (me p n (x + (p - y % p)))) := by
  have p0 : 0 < p := by have := hF.p1; omega
  have h := msub_any a p n v _ _ w hF (Nat.mod_lt (x * B64 ^ n) p0) (Nat.mod_lt (y * B64 ^ n) p0)
  rw [show (x * B64 ^ n % p + (p - y * B64 ^ n % p)) % p = (x + (p - y % p)) * B64 ^ n % p from ?_] at h
  · exact h
  · rw [Nat.mod_add_mod, sub_mod' p0, ← Nat.mod_mul_mod (x + _), sub_mod' p0, Nat.mod_mul_mod, Nat.add_mul, Nat.mul_assoc]

theorem me_neg (a p n v y : Nat) (w : World) (hF : FldAt w a p n v) : Calls Tryz.prog 316 #[.pointer (some ⟨a, 0, none⟩), me p n y] w (Ret w (me p n (p - y % p))) := by
  have p0 : 0 < p := by have := hF.p1; omega
  have h := mneg_any a p n v _ w hF (Nat.mod_lt (y * B64 ^ n) p0)
  rw [show (0 + (p - y * B64 ^ n % p)) % p = (p - y % p) * B64 ^ n % p from ?_] at h
  · exact h
  · rw [sub_mod' p0, Nat.zero_add, ← Nat.mod_mul_mod (p - y % p), show (p - y % p) % p = ((p - 1) * y) % p by rw [← Nat.zero_add (p - y % p), sub_mod' p0, Nat.zero_add], Nat.mod_mul_mod, Nat.mul_assoc]

/-- Six cells from the offset o on. -/
theorem six_at {w : World} {a o : Nat} {x : Nat} {d0 d1 d2 d3 d4 d5 : Nat} (h : ∀ i, i < 6 → w.cell? ⟨a, o + i, none⟩ = some (.int .u64 ((digs B64 6 x).getD i 0 : Nat))) (hd : digs B64 6 x = [d0, d1, d2, d3, d4, d5]) :
    w.cell? ⟨a, o, none⟩ = some (.int .u64 (d0 : Nat)) ∧ w.cell? ⟨a, o + 1, none⟩ = some (.int .u64 (d1 : Nat)) ∧ w.cell? ⟨a, o + 2, none⟩ = some (.int .u64 (d2 : Nat)) ∧ w.cell? ⟨a, o + 3, none⟩ = some (.int .u64 (d3 : Nat)) ∧ w.cell? ⟨a, o + 4, none⟩ = some (.int .u64 (d4 : Nat)) ∧ w.cell? ⟨a, o + 5, none⟩ = some (.int .u64 (d5 : Nat)) := by
  rw [hd] at h
  exact ⟨h 0 (by omega), h 1 (by omega), h 2 (by omega), h 3 (by omega), h 4 (by omega), h 5 (by omega)⟩

set_option maxHeartbeats 2000000 in
theorem me_square (a p n v x : Nat) (w : World) (hF : FldAt w a p n v) : Calls Tryz.prog 312 #[.pointer (some ⟨a, 0, none⟩), me p n x] w (Ret w (me p n (x * x))) := by
  have HS := fun w1 (h : FldAt w1 a p n v) => me_mul a p n v x x w1 h
  unfold me at HS ⊢
  obtain ⟨d0, d1, d2, d3, d4, d5, hdg, he⟩ := elv_ex (x * B64 ^ n % p)
  obtain ⟨r0, r1, r2, r3, r4, r5, hrg, hre⟩ := elv_ex (x * x * B64 ^ n % p)
  have HRE := Lib.hid hre
  rw [he, hre] at HS
  rw [he]
  clear hdg he hrg hre
  have HF := Lib.hid hF
  clear hF
  go_enter Tryz.func312, Tryz.ntmps312
  go_wp2_with fail
  refine (HS _ (HF.out.below (((Below.refl _ _).alloc (Nat.le_refl _) _).alloc (by simp) _))).mono ?_
  rintro e w' ⟨rfl, hb⟩
  have HR := Lib.hid (Row.below (Row.alloc_at (w := w.alloc _) (n := w.heap.size + 1) (k := .u64) (t := 166) (xs := [0, 0, 0, 0, 0, 0]) rfl (by simp)) hb)
  have HB := Lib.hid ((((Below.refl w.heap.size w).alloc (Nat.le_refl _) _).alloc (by simp) _).trans (hb.mono (by simp; omega)))
  obtain ⟨hs0, hs1, hs2, hs3, hs4, hs5⟩ := HR.out.six
  have hsf := HR.out.frozen
  clear hb
  go_wp2_with fail
  exact ret_elem rfl (w.heap.size + 1) [r0, r1, r2, r3, r4, r5] rfl (Row.put6 HR.out ..) _ Tryz.underlying166 rfl (by kernel_rfl) rfl ⟨by rw [HRE.out]; rfl, Below.put6 HB.out (by omega) ..⟩

theorem elv_one : elv 1 = .agg #[.int .u64 1, .int .u64 0, .int .u64 0, .int .u64 0, .int .u64 0, .int .u64 0] := by rfl

set_option maxHeartbeats 2000000 in
theorem from_me (a p n v x : Nat) (w : World) (hF : FldAt w a p n v) : Calls Tryz.prog 232 #[.pointer (some ⟨a, 0, none⟩), me p n x] w (Ret w (elv (x % p))) := by
  have p1 := hF.p1
  have HS : ∀ w1, FldAt w1 a p n v → Calls Tryz.prog 307 #[.pointer (some ⟨a, 0, none⟩), me p n x, elv 1] w1 (Ret w1 (elv (x % p))) := by
    intro w1 h1
    refine (mmul_any a p n v _ _ w1 h1 (Nat.mod_lt _ (by omega)) p1).mono ?_
    rintro e w' ⟨r, hr, ⟨M, N, h⟩, he⟩
    have h2 := congrArg (· % p) h
    simp only [Nat.add_mul_mod_self_right, Nat.mul_one, Nat.mod_mod] at h2
    have h3 := r_cancel n h1.pv h2
    rw [Nat.mod_eq_of_lt hr] at h3
    rw [← h3]
    exact he
  unfold me at HS ⊢
  obtain ⟨d0, d1, d2, d3, d4, d5, hdg, he⟩ := elv_ex (x * B64 ^ n % p)
  obtain ⟨r0, r1, r2, r3, r4, r5, hrg, hre⟩ := elv_ex (x % p)
  have HRE := Lib.hid hre
  rw [he, hre, elv_one] at HS
  rw [he]
  clear hdg he hrg hre p1
  have HF := Lib.hid hF
  clear hF
  go_enter Tryz.func232, Tryz.ntmps232
  go_wp2_with fail
  refine (HS _ (HF.out.below (((Below.refl _ _).alloc (Nat.le_refl _) _).alloc (by simp) _))).mono ?_
  rintro e w' ⟨rfl, hb⟩
  have HR := Lib.hid (Row.below (Row.alloc_at (w := w.alloc _) (n := w.heap.size + 1) (k := .u64) (t := 23) (xs := [0, 0, 0, 0, 0, 0]) rfl (by simp)) hb)
  have HB := Lib.hid ((((Below.refl w.heap.size w).alloc (Nat.le_refl _) _).alloc (by simp) _).trans (hb.mono (by simp; omega)))
  obtain ⟨hs0, hs1, hs2, hs3, hs4, hs5⟩ := HR.out.six
  have hsf := HR.out.frozen
  clear hb
  go_wp2_with fail
  exact ret_elem rfl (w.heap.size + 1) [r0, r1, r2, r3, r4, r5] rfl (Row.put6 HR.out ..) _ Tryz.underlying23 rfl (by kernel_rfl) rfl ⟨by rw [HRE.out]; rfl, Below.put6 HB.out (by omega) ..⟩

set_option maxHeartbeats 2000000 in
set_option maxRecDepth 100000 in
theorem to_me (a p n v x : Nat) (w : World) (hF : FldAt w a p n v) (hx : x < p) : Calls Tryz.prog 233 #[.pointer (some ⟨a, 0, none⟩), elv x] w (Ret w (me p n x)) := by
  have p1 := hF.p1
  have HS : ∀ w1, FldAt w1 a p n v → Calls Tryz.prog 307 #[.pointer (some ⟨a, 0, none⟩), elv x, elv (B64 ^ (2 * n) % p)] w1 (Ret w1 (me p n x)) := by
    intro w1 h1
    refine (mmul_any a p n v _ _ w1 h1 hx (Nat.mod_lt _ (by omega))).mono ?_
    rintro e w' ⟨r, hr, ⟨M, N, h⟩, he⟩
    have h2 : r * B64 ^ n % p = x * B64 ^ n * B64 ^ n % p := by
      have h2 := congrArg (· % p) h
      simp only [Nat.add_mul_mod_self_right] at h2
      rw [h2, Nat.mul_mod_mod, Nat.mul_assoc, ← Nat.pow_add, Nat.two_mul]
    have h3 := r_cancel n h1.pv h2
    rw [Nat.mod_eq_of_lt hr] at h3
    unfold me
    rw [← h3]
    exact he
  unfold me at HS ⊢
  obtain ⟨d0, d1, d2, d3, d4, d5, hdg, he⟩ := elv_ex x
  obtain ⟨s0, s1, s2, s3, s4, s5, hsg, hse⟩ := elv_ex (B64 ^ (2 * n) % p)
  obtain ⟨r0, r1, r2, r3, r4, r5, hrg, hre⟩ := elv_ex (x * B64 ^ n % p)
  have HRE := Lib.hid hre
  rw [he, hre, hse] at HS
  rw [he]
  obtain ⟨hq0, hq1, hq2, hq3, hq4, hq5⟩ := six_at hF.h2 hsg
  simp only [Nat.reduceAdd] at hq1 hq2 hq3 hq4 hq5
  have hlt := hF.lt
  have hlt1 : a < w.heap.size + 1 := by omega
  clear hdg he hrg hre p1 hsg hse
  have HF := Lib.hid hF
  clear hF
  go_enter Tryz.func233, Tryz.ntmps233
  go_wp2_with fail
  refine wp_region_still_tail 6 (by kernel_rfl) (by kernel_rfl) ?_
  simp only [List.take_succ_cons, List.take_zero, List.drop_succ_cons, List.drop_zero]
  change wpStill _ _ (World.drew _) _ _ _
  repeat still_step
  refine wpStill_nil ?_
  change wpList _ _ _ _ _ (World.drew _)
  go_wp2_with fail
  refine (HS _ (HF.out.below ((((Below.refl _ _).alloc (Nat.le_refl _) _).alloc (by simp) _).drew))).mono ?_
  rintro e w' ⟨rfl, hb⟩
  have HR := Lib.hid (Row.below (Row.drew (Row.alloc_at (w := w.alloc _) (n := w.heap.size + 1) (k := .u64) (t := 166) (xs := [0, 0, 0, 0, 0, 0]) rfl (by simp))) hb)
  have HB := Lib.hid (((((Below.refl w.heap.size w).alloc (Nat.le_refl _) _).alloc (by simp) _).drew).trans (hb.mono (by simp; omega)))
  obtain ⟨hs0, hs1, hs2, hs3, hs4, hs5⟩ := HR.out.six
  have hsf := HR.out.frozen
  clear hb
  go_wp2_with fail
  exact ret_elem rfl (w.heap.size + 1) [r0, r1, r2, r3, r4, r5] rfl (Row.put6 HR.out ..) _ Tryz.underlying166 rfl (by kernel_rfl) rfl ⟨by rw [HRE.out]; rfl, Below.put6 HB.out (by omega) ..⟩

set_option maxHeartbeats 2000000 in
theorem prime_any (a p n v : Nat) (w : World) (hF : FldAt w a p n v) : Calls Tryz.prog 292 #[.pointer (some ⟨a, 0, none⟩)] w (Ret w (elv p)) := by
  obtain ⟨d0, d1, d2, d3, d4, d5, hdg, he⟩ := elv_ex p
  obtain ⟨hq0, hq1, hq2, hq3, hq4, hq5⟩ := six_at (o := 0) (fun i hi => by rw [Nat.zero_add]; exact hF.hp i hi) hdg
  simp only [Nat.zero_add] at hq1 hq2 hq3 hq4 hq5
  have HRE := Lib.hid he
  have hlt := hF.lt
  clear hF he hdg
  go_enter Tryz.func292, Tryz.ntmps292
  go_wp2_with fail
  exact ret_elem rfl w.heap.size [d0, d1, d2, d3, d4, d5] rfl (Row.alloc rfl) _ Tryz.underlying166 rfl (by kernel_rfl) rfl ⟨by rw [HRE.out]; rfl, (Below.refl _ _).alloc (Nat.le_refl _) _⟩
end Go.Proofs.YtjokcbjahidckaaGreat
/-! mont.Exp, Inv: powers. Conditions: a field lies there. -/
namespace Go.Proofs.YtjokcbjahidckaaGreat
open Go.RowKit

theorem Row.far6 {w : World} {b g : Nat} {k : IntKind} {t : TypeId} {xs : List Nat} (h : Row w b k t xs) (hne : b ≠ g) (v0 v1 v2 v3 v4 v5 : Value) :
    Row ((((((w.setCell ⟨g, 0, none⟩ v0).setCell ⟨g, 1, none⟩ v1).setCell ⟨g, 2, none⟩ v2).setCell ⟨g, 3, none⟩ v3).setCell ⟨g, 4, none⟩ v4).setCell ⟨g, 5, none⟩ v5) b k t xs :=
  (((((h.far (a := ⟨g, 0, none⟩) hne v0).far (a := ⟨g, 1, none⟩) hne v1).far (a := ⟨g, 2, none⟩) hne v2).far (a := ⟨g, 3, none⟩) hne v3).far (a := ⟨g, 4, none⟩) hne v4).far (a := ⟨g, 5, none⟩) hne v5

theorem pow_bit1 {k j x : Nat} (h : k / 2 ^ j % 2 = 1) : x ^ (k / 2 ^ (j + 1)) * x ^ (k / 2 ^ (j + 1)) * x = x ^ (k / 2 ^ j) := by
  rw [← Nat.pow_add, ← Nat.pow_succ, Nat.pow_succ 2, ← Nat.div_div_eq_div_mul]
  congr 1; omega
theorem pow_bit0 {k j x : Nat} (h : k / 2 ^ j % 2 ≠ 1) : x ^ (k / 2 ^ (j + 1)) * x ^ (k / 2 ^ (j + 1)) = x ^ (k / 2 ^ j) := by
  rw [← Nat.pow_add, Nat.pow_succ 2, ← Nat.div_div_eq_div_mul]
  congr 1; omega

set_option maxHeartbeats 4000000 in
set_option maxRecDepth 100000 in
theorem me_exp (a p n v x : Nat) (A : Option Addr) (cap : Nat) (ks : List Nat) (w : World) (hF : FldAt w a p n v) (hc : ks.length ≤ cap) (hr : Rd w .u64 A ks) (hd : Digs B64 ks) :
    Calls Tryz.prog 311 #[.pointer (some ⟨a, 0, none⟩), me p n x, .slice A ks.length cap] w (Ret w (me p n (x ^ ofD B64 ks))) := by
  have HM := fun y z w1 (h : FldAt w1 a p n v) => Lib.hid (me_mul a p n v y z w1 h)
  have HBI := fun w1 (h : Below w.heap.size w w1) => Lib.hid (bits_any A cap ks w1 hc (hr.below h) hd)
  have HBT := fun i hi w1 (h : Below w.heap.size w w1) => Lib.hid (bit_any A cap ks i hi w1 (hr.below h) hd)
  obtain ⟨k, hk⟩ : ∃ k, k = ofD B64 ks := ⟨_, rfl⟩
  rw [← hk] at HBI HBT ⊢
  have hbl : bl k ≤ 64 * ks.length := bl_le (by rw [Nat.pow_mul, hk]; exact ofD_lt hd)
  have hkl := hr.1
  unfold me at HM ⊢
  obtain ⟨d0, d1, d2, d3, d4, d5, hdg, he⟩ := elv_ex (x * B64 ^ n % p)
  obtain ⟨o0, o1, o2, o3, o4, o5, hog, hoe⟩ := elv_ex (B64 ^ n % p)
  obtain ⟨hq0, hq1, hq2, hq3, hq4, hq5⟩ := six_at hF.h1 hog
  simp only [Nat.reduceAdd] at hq1 hq2 hq3 hq4 hq5
  have hlt := hF.lt
  have hlt1 : a < w.heap.size + 1 := by omega
  have hlt2 : a < w.heap.size + 1 + 1 := by omega
  have HF := Lib.hid hF
  have HG := Lib.hid hdg
  have HE := Lib.hid he
  have HOG := Lib.hid hog
  rw [he]
  clear hF hdg he hog hoe hr hd hk
  go_enter Tryz.func311, Tryz.ntmps311
  go_wp2_with fail
  refine (HBI _ ((((Below.refl _ _).alloc (Nat.le_refl _) _).alloc (by simp) _).alloc (by simp <;> omega) _)).out.mono ?_
  rintro e w' ⟨rfl, rfl⟩
  go_wp2_with fail
  go_loopw [8] (fun i wr => ∃ j, j ≤ bl k ∧ i = .int .i64 ((j : Int) - 1) ∧ Below w.heap.size w wr ∧ Row wr w.heap.size .u64 166 [d0, d1, d2, d3, d4, d5] ∧ Row wr (w.heap.size + 1) .u64 166 [0, 0, 0, 0, 0, 0] ∧ Row wr (w.heap.size + 1 + 1) .u64 166 (digs B64 6 (x ^ (k / 2 ^ j) * B64 ^ n % p))) (fun i _ => (intOf i + 1).toNat)
  case atStart =>
    refine ⟨bl k, Nat.le_refl _, rfl, (((Below.refl _ _).alloc (Nat.le_refl _) _).alloc (by simp) _).alloc (by simp <;> omega) _,
      Row.below (w := w.alloc _) (Row.alloc (xs := [d0, d1, d2, d3, d4, d5]) rfl) (((Below.refl _ _).alloc (Nat.le_refl _) _).alloc (by simp) _),
      Row.below (w := (w.alloc _).alloc _) (Row.alloc_at (xs := [0, 0, 0, 0, 0, 0]) rfl (by simp)) ((Below.refl _ _).alloc (Nat.le_refl _) _), ?_⟩
    rw [Nat.div_eq_of_lt (lt_pow_bl k), Nat.pow_zero, Nat.one_mul, HOG.out]
    exact Row.alloc_at rfl (by simp)
  case round =>
    obtain ⟨j, hj, rfl, hb, hrx, hr0, hrz⟩ := hrel
    have HB := Lib.hid hb
    have HRX := Lib.hid hrx
    have HR0 := Lib.hid hr0
    clear hrx hr0 hb
    obtain ⟨z0, z1, z2, z3, z4, z5, hzg, hze⟩ := elv_ex (x ^ (k / 2 ^ j) * B64 ^ n % p)
    rw [hzg] at hrz
    have HRZ := Lib.hid hrz
    obtain ⟨hz0, hz1, hz2, hz3, hz4, hz5⟩ := hrz.six
    have HZE := Lib.hid hze
    clear hrz
    rcases j with _ | j
    · obtain ⟨hs0, hs1, hs2, hs3, hs4, hs5⟩ := HR0.out.six
      have hsf := HR0.out.frozen
      clear hzg hze
      go_wp2_with fail
      refine ret_elem rfl (w.heap.size + 1) [z0, z1, z2, z3, z4, z5] rfl (Row.put6 HR0.out ..) _ Tryz.underlying166 rfl (by kernel_rfl) rfl ⟨?_, Below.put6 HB.out (by omega) ..⟩
      have h1 := HZE.out
      rw [Nat.pow_zero, Nat.div_one] at h1
      rw [h1]
      rfl
    · have hM1 := fun w1 h => (HM (x ^ (k / 2 ^ (j + 1))) (x ^ (k / 2 ^ (j + 1))) w1 h).out
      have hM2 := fun w1 h => (HM (x ^ (k / 2 ^ (j + 1)) * x ^ (k / 2 ^ (j + 1))) x w1 h).out
      obtain ⟨r0, r1, r2, r3, r4, r5, hrg, hre⟩ := elv_ex (x ^ (k / 2 ^ (j + 1)) * x ^ (k / 2 ^ (j + 1)) * B64 ^ n % p)
      obtain ⟨t0, t1, t2, t3, t4, t5, htg, hte⟩ := elv_ex (x ^ (k / 2 ^ (j + 1)) * x ^ (k / 2 ^ (j + 1)) * x * B64 ^ n % p)
      rw [hze, hre] at hM1
      rw [hre, HE.out, hte] at hM2
      have HM1 := fun w1 h => Lib.hid (hM1 w1 h)
      have HM2 := fun w1 h => Lib.hid (hM2 w1 h)
      have HRG := Lib.hid hrg
      have HTG := Lib.hid htg
      clear hM1 hM2 hzg hze hrg hre htg hte
      have hj9 : j < 9223372036854775807 := by omega
      go_wp2_with fail
      refine (HM1 _ (HF.out.below HB.out)).out.mono ?_
      rintro e w1 ⟨rfl, hb⟩
      have HB1 := Lib.hid (HB.out.trans (hb.mono HB.out.size))
      have HRX1 := Lib.hid (HRX.out.below hb)
      have HR01 := Lib.hid (HR0.out.below hb)
      have HRZ1 := Lib.hid (HRZ.out.below hb)
      have hzf := HRZ1.out.frozen
      obtain ⟨hz0, hz1, hz2, hz3, hz4, hz5⟩ := HRZ1.out.six
      clear hb
      go_wp2_with fail
      have HB2 := Lib.hid (Below.put6 HB1.out (b := w.heap.size + 1 + 1) (by omega) (.int .u64 (r0 : Nat)) (.int .u64 (r1 : Nat)) (.int .u64 (r2 : Nat)) (.int .u64 (r3 : Nat)) (.int .u64 (r4 : Nat)) (.int .u64 (r5 : Nat)))
      have HRZ2 := Lib.hid (Row.put6 HRZ1.out r0 r1 r2 r3 r4 r5)
      have HRX2 := Lib.hid (Row.far6 HRX1.out (g := w.heap.size + 1 + 1) (by omega) (.int .u64 (r0 : Nat)) (.int .u64 (r1 : Nat)) (.int .u64 (r2 : Nat)) (.int .u64 (r3 : Nat)) (.int .u64 (r4 : Nat)) (.int .u64 (r5 : Nat)))
      have HR02 := Lib.hid (Row.far6 HR01.out (g := w.heap.size + 1 + 1) (by omega) (.int .u64 (r0 : Nat)) (.int .u64 (r1 : Nat)) (.int .u64 (r2 : Nat)) (.int .u64 (r3 : Nat)) (.int .u64 (r4 : Nat)) (.int .u64 (r5 : Nat)))
      have HBTJ := HBT j hj9 _ HB2.out
      clear hz0 hz1 hz2 hz3 hz4 hz5 hzf
      generalize (((((w1.setCell _ _).setCell _ _).setCell _ _).setCell _ _).setCell _ _).setCell _ _ = w2 at *
      obtain ⟨bv, hbv⟩ : ∃ bv, bv = k / 2 ^ j % 2 := ⟨_, rfl⟩
      rw [← hbv] at HBTJ
      have hb2 : bv < 2 := by rw [hbv]; exact Nat.mod_lt _ (by decide)
      have HBV := Lib.hid hbv
      clear hbv
      refine HBTJ.out.mono ?_
      rintro e w' ⟨rfl, rfl⟩
      obtain ⟨hz0, hz1, hz2, hz3, hz4, hz5⟩ := HRZ2.out.six
      obtain ⟨hd0, hd1, hd2, hd3, hd4, hd5⟩ := HRX2.out.six
      clear HBTJ HBT HBI
      obtain rfl | rfl : bv = 0 ∨ bv = 1 := by omega
      · go_wp2_with fail
        go_roundw
        case rel =>
          refine ⟨j, by omega, rfl, HB2.out, HRX2.out, HR02.out, ?_⟩
          rw [← pow_bit0 (by rw [← HBV.out]; decide), HRG.out]
          exact HRZ2.out
        case measure => simp [intOf]
      · go_wp2_with fail
        refine (HM2 _ (HF.out.below HB2.out)).out.mono ?_
        rintro e w3 ⟨rfl, hb⟩
        have HB3 := Lib.hid (HB2.out.trans (hb.mono HB2.out.size))
        have HRX3 := Lib.hid (HRX2.out.below hb)
        have HR03 := Lib.hid (HR02.out.below hb)
        have HRZ3 := Lib.hid (HRZ2.out.below hb)
        have hzf := HRZ3.out.frozen
        clear hz0 hz1 hz2 hz3 hz4 hz5 hd0 hd1 hd2 hd3 hd4 hd5 hb
        obtain ⟨hz0, hz1, hz2, hz3, hz4, hz5⟩ := HRZ3.out.six
        go_wp2_with fail
        go_roundw
        case rel =>
          refine ⟨j, by omega, rfl, Below.put6 HB3.out (by omega) .., Row.far6 HRX3.out (by omega) .., Row.far6 HR03.out (by omega) .., ?_⟩
          rw [← pow_bit1 HBV.out.symm, HTG.out]
          exact Row.put6 HRZ3.out ..
        case measure => simp [intOf]
end Go.Proofs.YtjokcbjahidckaaGreat
/-! mont.Inv: the inverse by Fermat. Conditions: a field lies there. -/
namespace Go.Proofs.YtjokcbjahidckaaGreat
open Go.RowKit

set_option maxHeartbeats 4000000 in
set_option maxRecDepth 100000 in
theorem me_inv (a p n v x : Nat) (w : World) (hF : FldAt w a p n v) :
    Calls Tryz.prog 315 #[.pointer (some ⟨a, 0, none⟩), me p n x] w (Ret w (me p n (x ^ (p - 2)))) := by
  have HS : ∀ (w1 : World) (g : Nat), FldAt w1 a p n v → Row w1 g .u64 22 [2] → Calls Tryz.prog 301 #[.slice (some ⟨a, 0, none⟩) 6 6, .slice (some ⟨g, 0, none⟩) 1 1] w1 (RetSl w1 .u64 (lm (p - 2))) := by
    intro w1 g h1 h2
    have hp := h1.pn
    have h6 := h1.n6
    have hp6 : p < B64 ^ 6 := Nat.lt_of_lt_of_le hp (Nat.pow_le_pow_right (by decide) h6)
    have := sub_any (some ⟨a, 0, none⟩) (some ⟨g, 0, none⟩) 6 1 (digs B64 6 p) [2] w1 (by rw [length_digs]; exact Nat.le_refl _) (by decide) (by rw [ofD_digs, Nat.mod_eq_of_lt hp6]; exact h1.p1)
      ⟨by rw [length_digs]; omega, .inr ⟨a, 0, rfl, fun j hj => by rw [Nat.zero_add]; exact h1.hp j (by rwa [length_digs] at hj)⟩⟩ (h2.rd (by decide)) (Digs.digs (by decide) _ _) (by intro d hd; simp at hd; subst hd; decide)
    rw [ofD_digs, Nat.mod_eq_of_lt hp6, length_digs] at this
    exact this
  have HX := fun A cap w1 (h : FldAt w1 a p n v) hc hr => Lib.hid (me_exp a p n v x A cap (lm (p - 2)) w1 h hc hr (Digs.dig (by decide) _))
  have e2 : ofD B64 (lm (p - 2)) = p - 2 := ofD_dig (by decide) _
  rw [e2] at HX
  unfold me at HX ⊢
  obtain ⟨d0, d1, d2, d3, d4, d5, hdg, he⟩ := elv_ex (x * B64 ^ n % p)
  obtain ⟨r0, r1, r2, r3, r4, r5, hrg, hre⟩ := elv_ex (x ^ (p - 2) * B64 ^ n % p)
  have HRE := Lib.hid hre
  rw [he, hre] at HX
  rw [he]
  have hlt := hF.lt
  have hlt1 : a < w.heap.size + 1 := by omega
  have hs6 := sl6a a 0
  have HF := Lib.hid hF
  clear hF hdg he hrg hre e2
  go_enter Tryz.func315, Tryz.ntmps315
  go_wp2_with fail
  have hW : ∃ W, W = ((((w.alloc (.cells #[.int .u64 (d0 : Nat), .int .u64 (d1 : Nat), .int .u64 (d2 : Nat), .int .u64 (d3 : Nat), .int .u64 (d4 : Nat), .int .u64 (d5 : Nat)] 166)).alloc (.cells #[.int .u64 0, .int .u64 0, .int .u64 0, .int .u64 0, .int .u64 0, .int .u64 0] 166)).alloc (.cells #[.int .u64 2] 22)).drew) := ⟨_, rfl⟩
  obtain ⟨W, hW⟩ := hW
  have hbW : Below w.heap.size w W := by
    rw [hW]
    exact ((((Below.refl _ _).alloc (Nat.le_refl _) _).alloc (by simp) _).alloc (by simp <;> omega) _).drew
  have hrx : Row W w.heap.size .u64 166 [d0, d1, d2, d3, d4, d5] := by
    rw [hW]
    exact Row.drew (Row.below (w := w.alloc _) (Row.alloc (xs := [d0, d1, d2, d3, d4, d5]) rfl) (((Below.refl _ _).alloc (Nat.le_refl _) _).alloc (by simp) _))
  have hr0 : Row W (w.heap.size + 1) .u64 166 [0, 0, 0, 0, 0, 0] := by
    rw [hW]
    exact Row.drew (Row.below (w := (w.alloc _).alloc _) (Row.alloc_at (xs := [0, 0, 0, 0, 0, 0]) rfl (by simp)) ((Below.refl _ _).alloc (Nat.le_refl _) _))
  have hr2 : Row W (w.heap.size + 1 + 1) .u64 22 [2] := by
    rw [hW]
    exact Row.drew (Row.alloc_at rfl (by simp))
  have HSUB := Lib.hid (HS W (w.heap.size + 1 + 1) (HF.out.below hbW) hr2)
  have HBW := Lib.hid hbW
  have HRX := Lib.hid hrx
  have HR0 := Lib.hid hr0
  rw [hW] at HSUB
  have HW := Lib.hid hW
  clear hbW hrx hr0 hr2 hW HS
  go_region_with (first
    | (go_at_call 301; rw [← HW.out] at HSUB ⊢; refine HSUB.out.mono ?_; rintro e w2 ⟨v2, rfl, hb2, A2, cap2, rfl, hc2, hr2, hA2⟩
       have HB2 := Lib.hid (HBW.out.trans (hb2.mono HBW.out.size))
       have HX2 := HX A2 cap2 w2 (HF.out.below HB2.out) hc2 hr2
       have HR02 := Lib.hid (HR0.out.below hb2)
       obtain ⟨hd0, hd1, hd2, hd3, hd4, hd5⟩ := (HRX.out.below hb2).six
       clear hb2 hr2)
    | (go_at_call 311; refine HX2.out.mono ?_; rintro e w3 ⟨rfl, hb3⟩
       have HB3 := Lib.hid (HB2.out.trans (hb3.mono HB2.out.size))
       have HR03 := Lib.hid (HR02.out.below hb3)
       obtain ⟨hs0, hs1, hs2, hs3, hs4, hs5⟩ := HR03.out.six
       have hsf := HR03.out.frozen
       clear hb3))
  all_goals
    go_wp2_with fail
    exact ret_elem rfl (w.heap.size + 1) [r0, r1, r2, r3, r4, r5] rfl (Row.put6 HR03.out ..) _ Tryz.underlying166 rfl (by kernel_rfl) rfl ⟨by rw [HRE.out]; rfl, Below.put6 HB3.out (by omega) ..⟩
end Go.Proofs.YtjokcbjahidckaaGreat
/-! mont.rest; what a field's block holds. Conditions: limbs below 2^64; what one divides by is not 0. -/
namespace Go.Proofs.YtjokcbjahidckaaGreat
open Go.RowKit

theorem rest_any (A A' : Option Addr) (cap cap' : Nat) (xs ys : List Nat) (w : World) (hc : xs.length ≤ cap) (hc' : ys.length ≤ cap') (hA : A = none → cap = 0) (hbig : xs.length < 1099511627775) (hr : Rd w .u64 A xs) (hr' : Rd w .u64 A' ys) (hd : Digs B64 xs) (hd' : Digs B64 ys) (h0 : ofD B64 ys ≠ 0) :
    Calls Tryz.prog 344 #[.slice A xs.length cap, .slice A' ys.length cap'] w (RetSl w .u64 (lm (ofD B64 xs % ofD B64 ys))) := by
  have HD := Lib.hid (divmod_any A A' cap cap' xs ys w hc hc' hA hbig hr hr' hd hd' h0)
  clear hr hr' hd hd' h0 hc hc' hbig hA
  go_enter Tryz.func344, Tryz.ntmps344
  go_wp2_with fail
  refine HD.out.mono ?_
  rintro e w' ⟨v1, v2, rfl, hb, hs1, hs2⟩
  have HB := Lib.hid hb
  have HS2 := Lib.hid hs2
  clear hb hs1 hs2
  go_wp2_with fail
  go_ret
  exact ⟨v2, rfl, HB.out, HS2.out⟩

/-- The cells of a field: the prime, how many limbs, the inverse, 1, the square. -/
def fcells (ps : List Nat) (n v : Nat) (os ss : List Nat) : List Value :=
  (ps.map fun x : Nat => Value.int .u64 (x : Int)) ++ ([.int .i64 (n : Nat), .int .u64 (v : Nat)] ++ ((os.map fun x : Nat => Value.int .u64 (x : Int)) ++ (ss.map fun x : Nat => Value.int .u64 (x : Int))))

/-- A field's block. -/
def FB (w : World) (b : Nat) (ps : List Nat) (n v : Nat) (os ss : List Nat) : Prop := w.heap[b]? = some (.cells (fcells ps n v os ss).toArray 393 (0, 0))

theorem FB.lt {w : World} {b : Nat} {ps : List Nat} {n v : Nat} {os ss : List Nat} (h : FB w b ps n v os ss) : b < w.heap.size := (Array.getElem?_eq_some_iff.1 h).1
theorem FB.cell {w : World} {b : Nat} {ps : List Nat} {n v : Nat} {os ss : List Nat} (h : FB w b ps n v os ss) (i : Nat) : w.cell? ⟨b, i, none⟩ = (fcells ps n v os ss)[i]? := by
  rw [cell_of_row w b i _ _ _ h]; simp
theorem FB.frozen {w : World} {b : Nat} {ps : List Nat} {n v : Nat} {os ss : List Nat} (h : FB w b ps n v os ss) (i : Nat) : w.frozen? ⟨b, i, none⟩ = false := by
  rw [frozen_of_row w b i _ _ h]
theorem FB.below {w w1 : World} {b : Nat} {ps : List Nat} {n v : Nat} {os ss : List Nat} (h : FB w b ps n v os ss) (hb : Below w.heap.size w w1) : FB w1 b ps n v os ss := by
  unfold FB
  rw [hb.block b h.lt]
  exact h
theorem FB.far {w : World} {b : Nat} {ps : List Nat} {n v : Nat} {os ss : List Nat} (h : FB w b ps n v os ss) {a : Addr} (ha : b ≠ a.block) (u : Value) : FB (w.setCell a u) b ps n v os ss := by
  unfold FB at *
  rw [Below.heap_setCell _ _ _ _ ha]
  exact h
theorem FB.drew {w : World} {b : Nat} {ps : List Nat} {n v : Nat} {os ss : List Nat} (h : FB w b ps n v os ss) : FB w.drew b ps n v os ss := h

theorem fcells_p {ps : List Nat} (n v : Nat) (os ss : List Nat) {i : Nat} (hi : i < ps.length) : (fcells ps n v os ss)[i]? = some (.int .u64 (ps.getD i 0 : Nat)) := by
  unfold fcells
  rw [List.getElem?_append_left (by simpa using hi)]
  simp [List.getD_eq_getElem?_getD, hi]
theorem fcells_n {ps : List Nat} (n v : Nat) (os ss : List Nat) (hl : ps.length = 6) : (fcells ps n v os ss)[6]? = some (.int .i64 (n : Nat)) := by
  unfold fcells
  rw [List.getElem?_append_right (by simp [hl])]
  simp [hl]
theorem fcells_v {ps : List Nat} (n v : Nat) (os ss : List Nat) (hl : ps.length = 6) : (fcells ps n v os ss)[7]? = some (.int .u64 (v : Nat)) := by
  unfold fcells
  rw [List.getElem?_append_right (by simp [hl])]
  simp [hl]
theorem fcells_1 {ps os : List Nat} (n v : Nat) (ss : List Nat) (hl : ps.length = 6) {i : Nat} (hi : i < os.length) : (fcells ps n v os ss)[8 + i]? = some (.int .u64 (os.getD i 0 : Nat)) := by
  unfold fcells
  rw [List.getElem?_append_right (by simp [hl]; omega), List.getElem?_append_right (by simp [hl]; omega), List.getElem?_append_left (by simp [hl]; omega)]
  simp only [List.length_map, List.length_cons, List.length_nil, hl, show 8 + i - 6 - (0 + 1 + 1) = i by omega]
  simp [List.getD_eq_getElem?_getD, hi]
theorem fcells_2 {ps os ss : List Nat} (n v : Nat) (hl : ps.length = 6) (hl2 : os.length = 6) {i : Nat} (hi : i < ss.length) : (fcells ps n v os ss)[14 + i]? = some (.int .u64 (ss.getD i 0 : Nat)) := by
  unfold fcells
  rw [List.getElem?_append_right (by simp [hl]; omega), List.getElem?_append_right (by simp [hl]; omega), List.getElem?_append_right (by simp [hl, hl2]; omega)]
  simp only [List.length_map, List.length_cons, List.length_nil, hl, hl2, show 14 + i - 6 - (0 + 1 + 1) - 6 = i by omega]
  simp [List.getD_eq_getElem?_getD, hi]

theorem FB.setv {w : World} {b : Nat} {ps : List Nat} {n v : Nat} {os ss : List Nat} (h : FB w b ps n v os ss) (hl : ps.length = 6) (v' : Nat) : FB (w.setCell ⟨b, 7, none⟩ (.int .u64 (v' : Nat))) b ps n v' os ss := by
  unfold FB at *
  rw [heap_setCell_same w b 7 _ _ _ h]
  congr 1
  congr 1
  obtain ⟨d0, d1, d2, d3, d4, d5, rfl⟩ := six hl
  simp [fcells]

/-- Newton's step for the inverse modulo 2^64. -/
theorem newton {p x e : Int} (h : e ∣ p * x - 1) (he : e * e ∣ 18446744073709551616) {x' : Int} (hx : 18446744073709551616 ∣ x' - x * (2 - p * x)) : e * e ∣ p * x' - 1 := by
  obtain ⟨y, hy⟩ := h
  have h1 : p * x' - 1 = p * (x' - x * (2 - p * x)) - (e * e) * (y * y) := by
    have : p * x = 1 + e * y := by omega
    have h2 : p * (x * (2 - p * x)) = (p * x) * (2 - p * x) := by rw [Int.mul_assoc]
    rw [Int.mul_sub, h2, this]
    have : (1 + e * y) * (2 - (1 + e * y)) = 1 - (e * e) * (y * y) := by
      grind
    rw [this]
    omega
  rw [h1]
  exact Int.dvd_sub (Int.dvd_mul_of_dvd_right (Int.dvd_trans he hx)) (Int.dvd_mul_right _ _)
end Go.Proofs.YtjokcbjahidckaaGreat
/-! mont.New: the field of an odd prime. Conditions: the number is odd, above 1, of at most six limbs. -/
namespace Go.Proofs.YtjokcbjahidckaaGreat
open Go.RowKit

theorem splice_p {ps : List Nat} {n v : Nat} {os ss xs : List Nat} (hl : ps.length = 6) (hx : xs.length ≤ 6) : splice (fcells ps n v os ss) 0 (xs.map fun x : Nat => Value.int .u64 (x : Int)) = fcells (xs ++ ps.drop xs.length) n v os ss := by
  unfold splice fcells
  simp only [List.take_zero, List.nil_append, Nat.zero_add, List.length_map, List.map_append, List.append_assoc]
  rw [List.drop_append_of_le_length (by simp [hl]; exact hx), List.map_drop]

theorem newton_step (x p : Nat) : ∃ x' : Nat, IntKind.u64.wrap ((x : Int) * IntKind.u64.wrap (2 - IntKind.u64.wrap ((p : Int) * (x : Int)))) = (x' : Int) ∧ x' < 18446744073709551616 ∧ (18446744073709551616 : Int) ∣ (x' : Int) - x * (2 - p * x) := by
  rw [IntKind.wrap_u64, IntKind.wrap_u64, IntKind.wrap_u64]
  have h0 : (0 : Int) < 18446744073709551616 := by decide
  obtain ⟨x', hx'⟩ := Int.eq_ofNat_of_zero_le (Int.emod_nonneg ((x : Int) * ((2 - (p : Int) * x % 18446744073709551616) % 18446744073709551616)) (Int.ne_of_gt h0))
  refine ⟨x', hx', ?_, ?_⟩
  · have := Int.emod_lt_of_pos ((x : Int) * ((2 - (p : Int) * x % 18446744073709551616) % 18446744073709551616)) h0
    rw [hx'] at this
    exact Int.ofNat_lt.1 this
  · rw [← hx']
    clear hx'
    rw [Int.emod_def (x * _), Int.emod_def (2 - _), Int.emod_def ((p : Int) * x)]
    generalize ((x : Int) * _) / 18446744073709551616 = q3
    generalize (2 - _) / (18446744073709551616 : Int) = q2
    generalize (p : Int) * x / 18446744073709551616 = q1
    exact ⟨x * (q1 - q2) - q3, by grind⟩

theorem neg_step (x : Nat) : ∃ v : Nat, IntKind.u64.wrap (-(x : Int)) = (v : Int) ∧ v < 18446744073709551616 ∧ (18446744073709551616 : Int) ∣ (v : Int) + x := by
  rw [IntKind.wrap_u64]
  obtain ⟨v, hv⟩ := Int.eq_ofNat_of_zero_le (Int.emod_nonneg (-(x : Int)) (show (18446744073709551616 : Int) ≠ 0 by decide))
  exact ⟨v, hv, by omega, by omega⟩

theorem odd_sq {p : Nat} (h : p % 2 = 1) : (2 : Int) ^ (2 ^ 0) ∣ (p : Int) * (p : Int) - 1 := by
  obtain ⟨q, rfl⟩ : ∃ q, p = 2 * q + 1 := ⟨p / 2, by omega⟩
  refine ⟨2 * (q : Int) * q + 2 * q, ?_⟩
  rw [Int.natCast_add, Int.natCast_mul]
  show _ = (2 : Int) ^ 1 * _
  grind

theorem newton_pow {k : Nat} {p x x' : Int} (hk : k < 6) (h : (2 : Int) ^ (2 ^ k) ∣ p * x - 1) (hx : 18446744073709551616 ∣ x' - x * (2 - p * x)) : (2 : Int) ^ (2 ^ (k + 1)) ∣ p * x' - 1 := by
  rw [Nat.pow_succ, Nat.mul_two, Int.pow_add]
  refine newton h ?_ hx
  obtain rfl | rfl | rfl | rfl | rfl | rfl : k = 0 ∨ k = 1 ∨ k = 2 ∨ k = 3 ∨ k = 4 ∨ k = 5 := by omega
  all_goals decide

theorem cells_zero {m i : Nat} (h : i < m) : (cellsOf IntKind.u64 (List.replicate m 0))[i]? = some (Value.int .u64 0) := by
  simp [cellsOf, h]

theorem OnlyB.setRow (w : World) (g : Nat) (cs : Array Value) : OnlyB g w (w.setRow g cs) := ⟨rfl, rfl, rfl, by simp, fun k hk => setRow_other w g k cs hk⟩

/-- A copy into a field's block, as a step of a region that draws. -/
theorem step_copy_fb {ops : Array Oper} {o : Oper} {a : Act} {w : World} {K : Act → World → Prop} {Q : Exit → Act → World → Prop} {E : Prop} (hgd : o.guard = none) (d s : Operand)
    (ho : o.op = .call { callee := .builtin .copy, args := #[d, s], argTypes := #[86, 86] }) (g off : Nat) (hd : a.eval d = .slice (some ⟨g, off, none⟩) 6 6) (A : Option Addr) (sLen sCap : Nat) (hs : a.eval s = .slice A sLen sCap)
    (cur : List Value) (hg : w.heap[g]? = some (.cells cur.toArray 393 (0, 0))) (xs : List Nat) (hxl : xs.length = Nat.min sLen 6) (hr : Rd w .u64 A xs) (hfit : off + xs.length ≤ cur.length)
    (h : ∀ w', Hid (w'.heap[g]? = some (.cells (splice cur off (xs.map fun n : Nat => Value.int .u64 (n : Int))).toArray 393 (0, 0))) → OnlyB g w w' → K (a.put o.dst (goInt xs.length)) w') :
    if Region.wanted o (yielded ops a.tmps) = true then Oper.wp Tryz.prog o a w K Q else E := by
  have hw : Region.wanted o (yielded ops a.tmps) = true := by simp [Region.wanted, hgd]
  rw [if_pos hw]
  have hn : (xs.map fun n : Nat => Value.int .u64 (n : Int)).length = Nat.min sLen 6 := by simpa using hxl
  by_cases h0 : xs.length = 0
  · obtain rfl : xs = [] := List.eq_nil_of_length_eq_zero h0
    have hrun := run_copy_none (P := Tryz.prog) w 86 86 o.type 22 (some ⟨g, off, none⟩) A 6 6 sLen sCap Tryz.underlying86 (by kernel_rfl) (by simpa using hn.symm)
    unfold Oper.wp
    simp [execOp, ho, resolve, invoke, builtin, hd, hs, hrun, Result.andThen]
    exact h w (show _ = _ by simpa [splice] using hg) (OnlyB.refl _ _)
  · have hsrc : ∃ ad, A = some ad ∧ ∀ j v, (xs.map fun n : Nat => Value.int .u64 (n : Int))[j]? = some v → w.cell? (ad.add j) = some v := by
      rcases hr.2 with e | ⟨b, off', e, hx⟩
      · rw [e] at h0; simp at h0
      · refine ⟨_, e, fun j v hj => ?_⟩
        have hj2 : j < xs.length := by
          rcases Nat.lt_or_ge j xs.length with h | h
          · exact h
          · rw [List.getElem?_eq_none (by simpa using h)] at hj; cases hj
        rw [Addr.add_mid, hx j hj2, ← hj]
        simp [List.getD_eq_getElem?_getD, hj2]
    obtain ⟨ad, rfl, hsrc⟩ := hsrc
    have h1 : ∀ v ∈ (xs.map fun n : Nat => Value.int .u64 (n : Int)), v.oneCell' = true := by
      intro v hv
      obtain ⟨n, _, rfl⟩ := List.mem_map.1 hv
      rfl
    have hrun := run_copy_row (P := Tryz.prog) w 86 86 o.type 22 g off 6 6 ad sLen sCap cur.toArray 393 (xs.map fun n : Nat => Value.int .u64 (n : Int)) Tryz.underlying86 (by kernel_rfl) hg hn hsrc (by simpa using hfit) h1
    have hln : xs.length = (xs.map fun n : Nat => Value.int .u64 (n : Int)).length := by simp
    rw [hln] at h
    generalize (xs.map fun n : Nat => Value.int .u64 (n : Int)) = cs at *
    unfold Oper.wp
    simp [execOp, ho, resolve, invoke, builtin, hd, hs, hrun, Result.andThen]
    exact h _ (show _ = _ by simpa [splice] using setRow_heap w g _ _ 393 _ hg) (OnlyB.setRow w g _)

theorem cellsOf_set (k : IntKind) (xs : List Nat) (i v : Nat) : (cellsOf k xs).setIfInBounds i (.int k (v : Nat)) = cellsOf k (xs.set i v) := by
  simp [cellsOf, List.map_set]

theorem len_mod {p r n : Nat} (h0 : 0 < p) (h : ofD B64 (lm p) = p) (hd : Digs B64 (lm p)) (hn : n = (lm p).length) : (lm (r % p)).length ≤ n := by
  refine length_dig_le (by decide) (Nat.lt_trans (Nat.mod_lt _ h0) ?_)
  have := ofD_lt hd
  rwa [h, ← hn] at this

theorem splice_1 {ps : List Nat} {n v : Nat} {os ss xs : List Nat} (hl : ps.length = 6) (ho : os.length = 6) (hx : xs.length ≤ 6) : splice (fcells ps n v os ss) 8 (xs.map fun x : Nat => Value.int .u64 (x : Int)) = fcells ps n v (xs ++ os.drop xs.length) ss := by
  obtain ⟨p0, p1, p2, p3, p4, p5, rfl⟩ := six hl
  unfold splice fcells
  simp only [List.map_cons, List.map_nil, List.cons_append, List.nil_append, List.take_succ_cons, List.take_zero, List.length_map, List.map_append, List.append_assoc, show ∀ k, 8 + k = k + 1 + 1 + 1 + 1 + 1 + 1 + 1 + 1 from fun k => by omega, List.drop_succ_cons]
  rw [List.drop_append_of_le_length (by simp [ho]; exact hx), List.map_drop]

theorem splice_2 {ps : List Nat} {n v : Nat} {os ss xs : List Nat} (hl : ps.length = 6) (ho : os.length = 6) (hs : ss.length = 6) (hx : xs.length ≤ 6) : splice (fcells ps n v os ss) 14 (xs.map fun x : Nat => Value.int .u64 (x : Int)) = fcells ps n v os (xs ++ ss.drop xs.length) := by
  obtain ⟨p0, p1, p2, p3, p4, p5, rfl⟩ := six hl
  obtain ⟨o0, o1, o2, o3, o4, o5, rfl⟩ := six ho
  unfold splice fcells
  simp only [List.map_cons, List.map_nil, List.cons_append, List.nil_append, List.take_succ_cons, List.take_zero, List.length_map, List.map_append, show ∀ k, 14 + k = k + 1 + 1 + 1 + 1 + 1 + 1 + 1 + 1 + 1 + 1 + 1 + 1 + 1 + 1 from fun k => by omega, List.drop_succ_cons, List.map_drop]

theorem digs_six {r : Nat} (h : (lm r).length ≤ 6) : digs B64 6 r = lm r ++ [0, 0, 0, 0, 0, 0].drop (lm r).length := by
  have hr : r < B64 ^ 6 := Nat.lt_of_lt_of_le (lt_pow_dig (by decide) r) (Nat.pow_le_pow_right (by decide) h)
  rw [digs_eq (by decide) hr, show [0, 0, 0, 0, 0, 0] = List.replicate 6 0 from rfl, List.drop_replicate]
  rfl

theorem set_back {m n k : Nat} (h : n ≠ k) : (((List.replicate m 0).set n 1).set n 0).set k 1 = (List.replicate m 0).set k 1 := by
  rw [List.set_set]
  congr 1
  apply List.ext_getElem
  · simp
  · intro i h1 h2
    simp

theorem inv_end {p p0 x v : Nat} (h0 : p0 = p % B64) (h : (2 : Int) ^ (2 ^ 6) ∣ (p0 : Int) * x - 1) (hv : (18446744073709551616 : Int) ∣ (v : Int) + x) : (p * v + 1) % B64 = 0 := by
  have e : (2 : Int) ^ (2 ^ 6) = 18446744073709551616 := by decide
  rw [e] at h
  have h1 : (18446744073709551616 : Int) ∣ (p : Int) - p0 := by rw [h0, B64_eq]; omega
  obtain ⟨a, ha⟩ := h
  obtain ⟨b, hb⟩ := hv
  obtain ⟨c, hc⟩ := h1
  have h2 : (18446744073709551616 : Int) ∣ (p : Int) * v + 1 := ⟨p * b - c * x - a, by
    rw [show (v : Int) = 18446744073709551616 * b - x by omega, show (p : Int) = p0 + 18446744073709551616 * c by omega] at *
    grind⟩
  apply Nat.mod_eq_zero_of_dvd
  rw [B64_eq]
  have h3 : ((18446744073709551616 : Nat) : Int) ∣ ((p * v + 1 : Nat) : Int) := by
    rw [Int.natCast_add, Int.natCast_mul]
    exact h2
  exact Int.natCast_dvd_natCast.1 h3

theorem ofD_unit (n m : Nat) (h : n < m) : ofD B64 (((List.replicate m 0).set n 1).take (n + 1)) = B64 ^ n := by
  rw [ofD_take_set (by simpa using h), List.take_replicate, ofD_replicate, Nat.zero_add, Nat.mul_one]

/-- A field lies in block a, which is one of mont's. -/
def FldB (w : World) (a p n v : Nat) : Prop := (∃ C, w.heap[a]? = some (.cells C 393 (0, 0))) ∧ FldAt w a p n v

set_option maxHeartbeats 4000000 in
set_option maxRecDepth 100000 in
theorem mont_new (A : Option Addr) (cap : Nat) (xs : List Nat) (w : World) (hc : xs.length ≤ cap) (hr : Rd w .u64 A xs) (hd : Digs B64 xs) (hodd : ofD B64 xs % 2 = 1) (h1 : 1 < ofD B64 xs) (h6 : (lm (ofD B64 xs)).length ≤ 6) :
    Calls Tryz.prog 289 #[.slice A xs.length cap] w (fun e w' => ∃ a v, e = .returned (.pointer (some ⟨a, 0, none⟩)) ∧ Below w.heap.size w w' ∧ w.heap.size ≤ a ∧ FldB w' a (ofD B64 xs) (lm (ofD B64 xs)).length v) := by
  obtain ⟨p, hp⟩ : ∃ p, p = ofD B64 xs := ⟨_, rfl⟩
  have HT := Lib.hid (trim_any A cap xs w hc hr)
  have HR : Hid (Rd w .u64 A (trimD xs)) := hr.take _
  rw [trimD_lm hd, ← hp] at HR
  have htl : (trimD xs).length = (lm p).length := by rw [trimD_lm hd, ← hp]
  rw [htl] at HT
  rw [← hp] at hodd h1 h6 ⊢
  have HDP : Hid (Digs B64 (lm p)) := Digs.dig (by decide) _
  have HPV : Hid (ofD B64 (lm p) = p) := ofD_dig (by decide) _
  obtain ⟨n, hn⟩ : ∃ n, n = (lm p).length := ⟨_, rfl⟩
  rw [← hn] at HT h6 ⊢
  have HN := Lib.hid hn
  clear hr hd hc hp htl hn
  have hpp : 0 < n := by
    rcases Nat.eq_zero_or_pos n with e | e
    · have := HPV.out
      rw [List.eq_nil_of_length_eq_zero (HN.out.symm.trans e)] at this
      rw [ofD_nil] at this
      omega
    · exact e
  obtain ⟨b, bo, rfl, _⟩ := HR.out.at (j := 0) (by rw [← HN.out]; exact hpp)
  go_enter Tryz.func289, Tryz.ntmps289
  go_wp2_with fail
  refine HT.out.mono ?_
  rintro e w' ⟨rfl, rfl⟩
  have hs6a := sl6a w.heap.size 0
  go_wp2_with (with_reducible refine wpList_copy_splice rfl _ _ 86 86 rfl 22 Tryz.underlying86 (by kernel_rfl) (some ⟨w.heap.size, 0, none⟩) (some ⟨b, bo, none⟩) 6 6 n n rfl rfl w.heap.size 0 (fcells [0, 0, 0, 0, 0, 0] n 0 [0, 0, 0, 0, 0, 0] [0, 0, 0, 0, 0, 0]) 393 ?hg ((lm p).map fun x : Nat => Value.int .u64 (x : Int)) ?hn ?hpos ?hfit ?h1 w.heap.size w ?hb (Nat.le_refl _) ?hh)
  case hg => exact heap_alloc_new _ _
  case hn => rw [List.length_map, ← HN.out]; exact (Nat.min_eq_left h6).symm
  case hpos =>
    intro _ j u hj
    obtain ⟨hj2, hj3⟩ := List.getElem?_eq_some_iff.1 hj
    obtain ⟨b1, o1, e1, hx⟩ := (HR.out.below ((Below.refl w.heap.size w).alloc (Nat.le_refl _) _)).at hj2
    cases e1
    refine hx.trans ?_
    rw [List.getD_eq_getElem?_getD, hj]
    rfl
  case hfit => simp [fcells]; rw [← HN.out]; omega
  case h1 =>
    intro u hu
    obtain ⟨x, _, rfl⟩ := List.mem_map.1 hu
    rfl
  case hb => exact (Below.refl _ _).alloc (Nat.le_refl _) _
  case hh =>
    intro w1 hg1 hb1
    have hfb : FB w1 w.heap.size (digs B64 6 p) n 0 [0, 0, 0, 0, 0, 0] [0, 0, 0, 0, 0, 0] := by
      have := hg1.out
      rw [splice_p rfl (by rw [← HN.out]; exact h6)] at this
      unfold FB
      rw [this, digs_eq (by decide) (show p < B64 ^ 6 from ?_)]
      · congr 5
        show _ = List.replicate (6 - (lm p).length) 0
        rw [show [0, 0, 0, 0, 0, 0] = List.replicate 6 0 from rfl, List.drop_replicate]
      · have := ofD_lt HDP.out
        rw [HPV.out, ← HN.out] at this
        exact Nat.lt_of_lt_of_le this (Nat.pow_le_pow_right (by decide) h6)
    clear hg1
    have HB1 := Lib.hid hb1
    have HFB := Lib.hid hfb
    clear hb1 hfb
    have hp0 : w1.cell? ⟨w.heap.size, 0, none⟩ = some (.int .u64 (((digs B64 6 p).getD 0 0 : Nat) : Int)) := by rw [HFB.out.cell, fcells_p _ _ _ _ (by rw [length_digs]; omega)]
    have hpb := digD p 0
    have HP0 : Hid ((digs B64 6 p).getD 0 0 = p % B64) := by
      show _ = _
      rw [getD_digs _ _ _ (by omega), Nat.pow_zero, Nat.div_one]
    generalize (digs B64 6 p).getD 0 0 = p0 at *
    go_wp2_with fail
    go_loopw [4, 23] (fun x i wr => ∃ (k xv : Nat), k ≤ 6 ∧ i = .int .i64 k ∧ x = .int .u64 xv ∧ xv < 18446744073709551616 ∧ (2 : Int) ^ (2 ^ k) ∣ (p0 : Int) * xv - 1 ∧ wr = w1) (fun _ i _ => 6 - (intOf i).toNat)
    case atStart =>
      refine ⟨0, p0, by omega, rfl, rfl, hpb, ?_, rfl⟩
      have h2 : p0 % 2 = 1 := by rw [HP0.out, B64_eq]; omega
      exact odd_sq h2
    case round =>
      obtain ⟨k, xv, hk, rfl, rfl, hxv, hdv, rfl⟩ := hrel
      by_cases hlt : k < 6
      · obtain ⟨x', hx', hxb, hxd⟩ : ∃ x' : Nat, IntKind.u64.wrap ((xv : Int) * IntKind.u64.wrap (2 - IntKind.u64.wrap ((p0 : Int) * (xv : Int)))) = (x' : Int) ∧ x' < 18446744073709551616 ∧ (18446744073709551616 : Int) ∣ (x' : Int) - xv * (2 - p0 * xv) := newton_step xv p0
        have HDV := Lib.hid hdv
        have HXD := Lib.hid hxd
        clear hdv hxd
        go_wp2_with fail
        refine ⟨⟨k + 1, x', hlt, by go_num, rfl, hxb, ?_, trivial⟩, by simp [intOf]; omega⟩
        exact newton_pow hlt HDV.out HXD.out
      · have hkk : k = 6 := by omega
        subst hkk
        obtain ⟨v, hv, hvb, hvd⟩ := neg_step xv
        have HDV := Lib.hid hdv
        have HVD := Lib.hid hvd
        clear hdv hvd
        have hl1 : w.heap.size < wr.heap.size := HFB.out.lt
        have hn1 : wr.cell? ⟨w.heap.size, 6, none⟩ = some (.int .i64 (n : Nat)) := by rw [HFB.out.cell, fcells_n _ _ _ _ (length_digs _ _ _)]
        have hv1 : wr.cell? ⟨w.heap.size, 7, none⟩ = some (.int .u64 0) := by rw [HFB.out.cell, fcells_v _ _ _ _ (length_digs _ _ _)]; rfl
        have hfz := HFB.out.frozen
        have hmk := mk64 (2 * (n : Int) + 1) (2 * n + 1) (by omega) (by omega)
        have hcz : (cellsOf IntKind.u64 (List.replicate (2 * n + 1) 0))[n]? = some (Value.int .u64 0) := cells_zero (by omega)
        go_wp2_with fail
        generalize hW2 : World.alloc (wr.setCell _ _) _ = W2
        have HB2 : Hid (Below w.heap.size w W2) := by rw [← hW2]; exact ((HB1.out.setCell (by exact Nat.le_refl _) _).alloc (by simp; exact HB1.out.size) _)
        have HFB2 : Hid (FB W2 w.heap.size (digs B64 6 p) n v [0, 0, 0, 0, 0, 0] [0, 0, 0, 0, 0, 0]) := by rw [← hW2]; exact (HFB.out.setv (length_digs _ _ _) v).below ((Below.refl _ _).alloc (Nat.le_refl _) _)
        have HPW2 : Hid (Row W2 wr.heap.size .u64 22 ((List.replicate (2 * n + 1) 0).set n 1)) := by rw [← hW2]; exact Row.alloc_at (cellsOf_set .u64 _ n 1) (by simp)
        clear hW2 hn1 hv1 hfz hcz hmk
        have hs6b := sl6a w.heap.size 8
        have hs6c := sl6a w.heap.size 14
        have hn1 : W2.cell? ⟨w.heap.size, 6, none⟩ = some (.int .i64 (n : Nat)) := by rw [HFB2.out.cell, fcells_n _ _ _ _ (length_digs _ _ _)]
        have hq1 : IntKind.i64.wrap ((n : Int) + 1) = (n : Int) + 1 := IntWalk.i64_in _ (by omega)
        have hq2 : (0 : Int) ≤ (n : Int) + 1 := by omega
        have hq3 : ((n : Int) + 1).toNat = n + 1 := by omega
        have hq4 : (n : Int) + 1 ≤ 2 * (n : Int) + 1 := by omega
        have hlt1 : (((List.replicate (2 * n + 1) 0).set n 1).take (n + 1)).length = n + 1 := by simp; omega
        have HRST := Lib.hid (rest_any (some ⟨wr.heap.size, 0, none⟩) (some ⟨b, bo, none⟩) (2 * n + 1) n (((List.replicate (2 * n + 1) 0).set n 1).take (n + 1)) (lm p) W2.drew (by rw [hlt1]; omega) (by rw [← HN.out]; exact Nat.le_refl _) nofun (by rw [hlt1]; omega)
          ((HPW2.out.drew.rd (by simp; omega)).take _) (HR.out.below HB2.out.drew) (((Digs.replicate (by decide) _).set n (by decide)).take _) HDP.out (by rw [HPV.out]; omega))
        rw [hlt1, ← HN.out, ofD_unit n _ (by omega), HPV.out] at HRST
        have hrl : (lm (B64 ^ n % p)).length ≤ n := len_mod (by omega) HPV.out HDP.out HN.out
        clear hlt1
        go_region_law (first
          | (go_simp; go_at_call 344; refine HRST.out.mono ?_; rintro e w3 ⟨v3, rfl, hb3, A3, cap3, rfl, hc3, hr3, hA3⟩
             have HB3 := Lib.hid (HB2.out.drew.trans (hb3.mono HB2.out.size))
             have HFB3 := Lib.hid (HFB2.out.drew.below hb3)
             have HPW3 := Lib.hid (HPW2.out.drew.below hb3)
             have hn3 : w3.cell? ⟨w.heap.size, 6, none⟩ = some (.int .i64 (n : Nat)) := by rw [HFB3.out.cell, fcells_n _ _ _ _ (length_digs _ _ _)]
             clear hb3)
          | (refine step_copy_fb rfl (.tmp 57) (.tmp 66) rfl w.heap.size 8 rfl A3 _ cap3 rfl _ HFB3.out _ (Nat.min_eq_left (by omega)).symm hr3 (by simp [fcells]; omega) ?_; intro w4 hg4 hb4))
        have hfb4 : FB w4 w.heap.size (digs B64 6 p) n v (digs B64 6 (B64 ^ n % p)) [0, 0, 0, 0, 0, 0] := by
          have := hg4.out
          rw [splice_1 (xs := lm (B64 ^ n % p)) (length_digs _ _ _) rfl (Nat.le_trans hrl h6)] at this
          unfold FB
          rw [this, digs_six (Nat.le_trans hrl h6)]
        have HFB4 := Lib.hid hfb4
        have HB4 := Lib.hid (HB3.out.trans (hb4.below (Nat.le_refl _)))
        have HPW4 := Lib.hid (hb4.row (show wr.heap.size ≠ w.heap.size by omega) HPW3.out)
        clear hg4 hb4 hfb4 hr3 hA3 hc3 hn3 hn1 HRST hrl
        have hn1 : w4.cell? ⟨w.heap.size, 6, none⟩ = some (.int .i64 (n : Nat)) := by rw [HFB4.out.cell, fcells_n _ _ _ _ (length_digs _ _ _)]
        have hzl : ((List.replicate (2 * n + 1) 0).set n 1).length = 2 * n + 1 := by simp
        have hc1 := HPW4.out.cell (i := n) (by omega)
        have hc2 := HPW4.out.cell (i := 2 * n) (by omega)
        have hcf := HPW4.out.frozen
        have hq5 : IntKind.i64.wrap (2 * (n : Int)) = 2 * (n : Int) := IntWalk.i64_in _ (by omega)
        have hq6 : (0 : Int) ≤ 2 * (n : Int) := by omega
        have hq7 : (2 * (n : Int)).toNat = 2 * n := by omega
        have hq8 : 2 * (n : Int) < 2 * (n : Int) + 1 := by omega
        have hq9 : (n : Int) < 2 * (n : Int) + 1 := by omega
        go_wp2_with fail
        go_region
        go_wp2_with fail
        generalize hW5 : World.drew _ = W5
        have HB5 : Hid (Below w.heap.size w W5) := by rw [← hW5]; exact ((HB4.out.setCell (by show w.heap.size ≤ wr.heap.size; omega) _).setCell (by show w.heap.size ≤ wr.heap.size; omega) _).drew
        have HFB5 : Hid (FB W5 w.heap.size (digs B64 6 p) n v (digs B64 6 (B64 ^ n % p)) [0, 0, 0, 0, 0, 0]) := by rw [← hW5]; exact ((HFB4.out.far (by show w.heap.size ≠ wr.heap.size; omega) _).far (by show w.heap.size ≠ wr.heap.size; omega) _).drew
        have HPW5 : Hid (Row W5 wr.heap.size .u64 22 ((List.replicate (2 * n + 1) 0).set (2 * n) 1)) := by
          rw [← hW5, ← set_back (n := n) (by omega)]
          exact ((HPW4.out.set n 0).set (2 * n) 1).drew
        clear hW5 hn1 hc1 hc2 hcf hzl hq1 hq2 hq3 hq4 hq5 hq6 hq7 hq8 hq9
        have hlt1 : ((List.replicate (2 * n + 1) 0).set (2 * n) 1).length = 2 * n + 1 := by simp
        have hval : ofD B64 ((List.replicate (2 * n + 1) 0).set (2 * n) 1) = B64 ^ (2 * n) := by
          rw [← ofD_unit (2 * n) (2 * n + 1) (by omega), List.take_of_length_le (by simp)]
        have HRST := Lib.hid (rest_any (some ⟨wr.heap.size, 0, none⟩) (some ⟨b, bo, none⟩) (2 * n + 1) n ((List.replicate (2 * n + 1) 0).set (2 * n) 1) (lm p) W5.drew (by rw [hlt1]; omega) (by rw [← HN.out]; exact Nat.le_refl _) nofun (by rw [hlt1]; omega)
          (HPW5.out.drew.rd (by simp; omega)) (HR.out.below HB5.out.drew) ((Digs.replicate (by decide) _).set (2 * n) (by decide)) HDP.out (by rw [HPV.out]; omega))
        rw [hlt1, ← HN.out, hval, HPV.out] at HRST
        have hrl : (lm (B64 ^ (2 * n) % p)).length ≤ n := len_mod (by omega) HPV.out HDP.out HN.out
        clear hlt1 hval
        go_region_law (first
          | (go_simp; go_at_call 344; refine HRST.out.mono ?_; rintro e w6 ⟨v3, rfl, hb6, A3, cap3, rfl, hc3, hr3, hA3⟩
             have HB6 := Lib.hid (HB5.out.drew.trans (hb6.mono HB5.out.size))
             have HFB6 := Lib.hid (HFB5.out.drew.below hb6)
             clear hb6)
          | (refine step_copy_fb rfl (.tmp 84) (.tmp 87) rfl w.heap.size 14 rfl A3 _ cap3 rfl _ HFB6.out _ (Nat.min_eq_left (by omega)).symm hr3 (by simp [fcells, length_digs]; omega) ?_; intro w7 hg7 hb7))
        have hfb7 : FB w7 w.heap.size (digs B64 6 p) n v (digs B64 6 (B64 ^ n % p)) (digs B64 6 (B64 ^ (2 * n) % p)) := by
          have := hg7.out
          rw [splice_2 (xs := lm (B64 ^ (2 * n) % p)) (length_digs _ _ _) (length_digs _ _ _) rfl (Nat.le_trans hrl h6)] at this
          unfold FB
          rw [this, digs_six (Nat.le_trans hrl h6)]
        have HFB7 := Lib.hid hfb7
        have HB7 := Lib.hid (HB6.out.trans (hb7.below (Nat.le_refl _)))
        clear hg7 hb7 hfb7 hr3 hA3 hc3 HRST hrl
        go_wp2_with fail
        go_ret
        refine ⟨w.heap.size, v, rfl, HB7.out, Nat.le_refl _, ⟨_, HFB7.out⟩, ?_⟩
        have hpn : p < B64 ^ n := by
          have := ofD_lt HDP.out
          rwa [HPV.out, ← HN.out] at this
        exact {
          hp := fun i hi => by rw [HFB7.out.cell, fcells_p _ _ _ _ (by rw [length_digs]; exact hi)]
          hn := by rw [HFB7.out.cell, fcells_n _ _ _ _ (length_digs _ _ _)]
          hv := by rw [HFB7.out.cell, fcells_v _ _ _ _ (length_digs _ _ _)]
          h1 := fun i hi => by rw [HFB7.out.cell, fcells_1 _ _ _ (length_digs _ _ _) (by rw [length_digs]; exact hi)]
          h2 := fun i hi => by rw [HFB7.out.cell, fcells_2 _ _ (length_digs _ _ _) (length_digs _ _ _) (by rw [length_digs]; exact hi)]
          n6 := h6
          pn := hpn
          p1 := h1
          pv := inv_end HP0.out HDV.out HVD.out
          v64 := by rw [B64_eq]; exact hvb }
end Go.Proofs.YtjokcbjahidckaaGreat
/-! field: a field over mont in memory; Mont, Modulus, Out. Conditions: a field lies there. -/
namespace Go.Proofs.YtjokcbjahidckaaGreat
open Go.RowKit

/-- A field.Field lies in block f, over mont's in block a. -/
structure GAt (w : World) (f a p n v z : Nat) : Prop where
  hm : w.cell? ⟨f, 0, none⟩ = some (.pointer (some ⟨a, 0, none⟩))
  hz : w.cell? ⟨f, 1, none⟩ = some (.int .i64 (z : Nat))
  fld : FldAt w a p n v

theorem GAt.lt {w : World} {f a p n v z : Nat} (h : GAt w f a p n v z) : f < w.heap.size := World.block_lt_of_cell? w _ h.hm
theorem GAt.below {w w1 : World} {f a p n v z : Nat} (h : GAt w f a p n v z) (hb : Below w.heap.size w w1) : GAt w1 f a p n v z := ⟨cell_below hb h.hm, cell_below hb h.hz, h.fld.below hb⟩

theorem fmont_any (f a p n v z : Nat) (w : World) (hG : GAt w f a p n v z) : Calls Tryz.prog 209 #[.pointer (some ⟨f, 0, none⟩)] w fun e w' => e = .returned (.pointer (some ⟨a, 0, none⟩)) ∧ w = w' := by
  have hm := hG.hm
  clear hG
  go_enter Tryz.func209, Tryz.ntmps209
  go_wp2_with fail
  go_ret
  exact ⟨rfl, rfl⟩

set_option maxHeartbeats 2000000 in
theorem modulus_any (f a p n v z : Nat) (w : World) (hG : GAt w f a p n v z) : Calls Tryz.prog 290 #[.pointer (some ⟨f, 0, none⟩)] w (Ret w (elv p)) := by
  obtain ⟨d0, d1, d2, d3, d4, d5, hdg, he⟩ := elv_ex p
  have HP := fun w1 (h : FldAt w1 a p n v) => prime_any a p n v w1 h
  rw [he] at HP
  have HE := Lib.hid he
  clear he hdg
  have hm := hG.hm
  have hlt := hG.lt
  have HG := Lib.hid hG.fld
  clear hG
  go_enter Tryz.func290, Tryz.ntmps290
  go_wp2_with fail
  refine (HP _ (HG.out.below ((Below.refl _ _).alloc (Nat.le_refl _) _))).mono ?_
  rintro e w' ⟨rfl, hb⟩
  have HR := Lib.hid (Row.below (Row.alloc_at (n := w.heap.size) (k := .u64) (t := 24) (xs := [0, 0, 0, 0, 0, 0]) rfl rfl) hb)
  have HB := Lib.hid (((Below.refl w.heap.size w).alloc (Nat.le_refl _) _).trans (hb.mono (by simp)))
  obtain ⟨hs0, hs1, hs2, hs3, hs4, hs5⟩ := HR.out.six
  have hsf := HR.out.frozen
  clear hb
  go_wp2_with fail
  exact ret_elem rfl w.heap.size [d0, d1, d2, d3, d4, d5] rfl (Row.put6 HR.out ..) _ Tryz.underlying24 rfl (by kernel_rfl) rfl ⟨by rw [HE.out]; rfl, Below.put6 HB.out (Nat.le_refl _) ..⟩

set_option maxHeartbeats 2000000 in
set_option maxRecDepth 100000 in
theorem fout_any (f a p n v z x : Nat) (w : World) (hG : GAt w f a p n v z) : Calls Tryz.prog 137 #[.pointer (some ⟨f, 0, none⟩), me p n x] w (Ret w (elv (x % p))) := by
  have HS := fun w1 (h : FldAt w1 a p n v) => from_me a p n v x w1 h
  unfold me at HS ⊢
  obtain ⟨d0, d1, d2, d3, d4, d5, hdg, he⟩ := elv_ex (x * B64 ^ n % p)
  obtain ⟨r0, r1, r2, r3, r4, r5, hrg, hre⟩ := elv_ex (x % p)
  have HRE := Lib.hid hre
  rw [he, hre] at HS
  rw [he]
  clear hdg he hrg hre
  have hm := hG.hm
  have hlt := hG.lt
  have hlt1 : f < w.heap.size + 1 := by omega
  have HG := Lib.hid hG.fld
  clear hG
  go_enter Tryz.func137, Tryz.ntmps137
  go_wp2_with fail
  refine wp_region_still_tail 5 (by kernel_rfl) (by kernel_rfl) ?_
  simp only [List.take_succ_cons, List.take_zero, List.drop_succ_cons, List.drop_zero]
  change wpStill _ _ (World.drew _) _ _ _
  repeat still_step
  refine wpStill_nil ?_
  change wpList _ _ _ _ _ (World.drew _)
  go_wp2_with fail
  refine (HS _ (HG.out.below ((((Below.refl _ _).alloc (Nat.le_refl _) _).alloc (by simp) _).drew))).mono ?_
  rintro e w' ⟨rfl, hb⟩
  have HR := Lib.hid (Row.below (Row.drew (Row.alloc_at (w := w.alloc _) (n := w.heap.size + 1) (k := .u64) (t := 24) (xs := [0, 0, 0, 0, 0, 0]) rfl (by simp))) hb)
  have HB := Lib.hid (((((Below.refl w.heap.size w).alloc (Nat.le_refl _) _).alloc (by simp) _).drew).trans (hb.mono (by simp; omega)))
  obtain ⟨hs0, hs1, hs2, hs3, hs4, hs5⟩ := HR.out.six
  have hsf := HR.out.frozen
  clear hb
  go_wp2_with fail
  exact ret_elem rfl (w.heap.size + 1) [r0, r1, r2, r3, r4, r5] rfl (Row.put6 HR.out ..) _ Tryz.underlying24 rfl (by kernel_rfl) rfl ⟨by rw [HRE.out]; rfl, Below.put6 HB.out (by omega) ..⟩
end Go.Proofs.YtjokcbjahidckaaGreat
/-! field: Reduce, In. Conditions: a field lies there. -/
namespace Go.Proofs.YtjokcbjahidckaaGreat
open Go.RowKit

theorem sl24 (b o : Nat) (W : World) : (Instr.sliceAt 24 (.pointer (some ⟨b, o, none⟩)) none none none).run Tryz.prog W = .ok (.slice (some ⟨b, o, none⟩) 6 6) W := by
  have hal : Tryz.prog.arrayLen 24 = 6 := by kernel_rfl
  rw [run_sliceAt_array_all W 24 ⟨b, o, none⟩ (by kernel_rfl)]
  rw [hal, show Tryz.prog.elem 24 = 22 from by kernel_rfl, Tryz.sizeOf22]
  simp only [Result.andThen_ok, slicedAt, Nat.zero_mul, Nat.sub_zero]
  rw [if_neg (by omega), Addr.add_mid, Nat.add_zero]

theorem cmpI_lt (x y : Nat) : decide (cmpI x y < 0) = decide (x < y) := by
  unfold cmpI
  split <;> (try split) <;> simp_all <;> omega

set_option maxHeartbeats 4000000 in
set_option maxRecDepth 100000 in
theorem reduce_any (f a p n v z x : Nat) (w : World) (hG : GAt w f a p n v z) (hx : x < B64 ^ 6) : Calls Tryz.prog 213 #[.pointer (some ⟨f, 0, none⟩), elv x] w (Ret w (elv (x % p))) := by
  obtain ⟨d0, d1, d2, d3, d4, d5, hdg, he⟩ := elv_ex x
  obtain ⟨p0, p1, p2, p3, p4, p5, hpg, hpe⟩ := elv_ex p
  have HP := fun w1 (h : FldAt w1 a p n v) => prime_any a p n v w1 h
  rw [hpe] at HP
  have hpl := hG.fld.pn
  have hp1 := hG.fld.p1
  have hp6 : p < B64 ^ 6 := Nat.lt_of_lt_of_le hpl (Nat.pow_le_pow_right (by decide) hG.fld.n6)
  have HDX : Hid (Digs B64 [d0, d1, d2, d3, d4, d5]) := by show Digs _ _; rw [← hdg]; exact Digs.digs (by decide) _ _
  have HVX : Hid (ofD B64 [d0, d1, d2, d3, d4, d5] = x) := by show _ = _; rw [← hdg, ofD_digs, Nat.mod_eq_of_lt hx]
  have HDP : Hid (Digs B64 [p0, p1, p2, p3, p4, p5]) := by show Digs _ _; rw [← hpg]; exact Digs.digs (by decide) _ _
  have HVP : Hid (ofD B64 [p0, p1, p2, p3, p4, p5] = p) := by show _ = _; rw [← hpg, ofD_digs, Nat.mod_eq_of_lt hp6]
  have HE := Lib.hid he
  rw [he]
  clear he hdg hpg hpe hpl hx
  have hm := hG.hm
  have hlt := hG.lt
  have hlt1 : f < w.heap.size + 1 := by omega
  have HG := Lib.hid hG.fld
  have hsa := sl24 w.heap.size 0
  clear hG
  go_enter Tryz.func213, Tryz.ntmps213
  go_wp2_with fail
  refine (HP _ (HG.out.below (((Below.refl _ _).alloc (Nat.le_refl _) _).alloc (by simp) _))).mono ?_
  rintro e w1 ⟨rfl, hb⟩
  have HRX := Lib.hid (Row.below (Row.below (Row.alloc_at (w := w) (n := w.heap.size) (k := .u64) (t := 24) (xs := [d0, d1, d2, d3, d4, d5]) rfl rfl) ((Below.refl _ _).alloc (Nat.le_refl _) _)) hb)
  have HR0 := Lib.hid (Row.below (Row.alloc_at (w := w.alloc _) (n := w.heap.size + 1) (k := .u64) (t := 24) (xs := [0, 0, 0, 0, 0, 0]) rfl (by simp)) hb)
  have HB := Lib.hid ((((Below.refl w.heap.size w).alloc (Nat.le_refl _) _).alloc (by simp) _).trans (hb.mono (by simp; omega)))
  have hl1 : w.heap.size + 1 < w1.heap.size := HR0.out.lt
  have hsp := sl6a w1.heap.size 0
  clear hb
  go_wp2_with fail
  generalize hW2 : World.alloc w1 _ = W2
  have HB2 : Hid (Below w.heap.size w W2) := by rw [← hW2]; exact HB.out.alloc (by omega) _
  have HRX2 : Hid (Row W2 w.heap.size .u64 24 [d0, d1, d2, d3, d4, d5]) := by rw [← hW2]; exact HRX.out.below ((Below.refl _ _).alloc (Nat.le_refl _) _)
  have HR02 : Hid (Row W2 (w.heap.size + 1) .u64 24 [0, 0, 0, 0, 0, 0]) := by rw [← hW2]; exact HR0.out.below ((Below.refl _ _).alloc (Nat.le_refl _) _)
  have HRP2 : Hid (Row W2 w1.heap.size .u64 166 [p0, p1, p2, p3, p4, p5]) := by rw [← hW2]; exact Row.alloc_at rfl rfl
  clear hW2
  have HCMP := fun w3 (h1 : Row w3 w.heap.size .u64 24 [d0, d1, d2, d3, d4, d5]) (h2 : Row w3 w1.heap.size .u64 166 [p0, p1, p2, p3, p4, p5]) => Lib.hid (cmp_any (some ⟨w.heap.size, 0, none⟩) (some ⟨w1.heap.size, 0, none⟩) 6 6 [d0, d1, d2, d3, d4, d5] [p0, p1, p2, p3, p4, p5] w3 (Nat.le_refl _) (Nat.le_refl _) (h1.rd (by show 6 ≤ _; omega)) (h2.rd (by show 6 ≤ _; omega)) HDX.out HDP.out)
  rw [HVX.out, HVP.out] at HCMP
  refine wp_region_still_tail 2 (by kernel_rfl) (by kernel_rfl) ?_
  simp only [List.take_succ_cons, List.take_zero, List.drop_succ_cons, List.drop_zero]
  change wpStill _ _ W2.drew _ _ _
  repeat still_step
  refine wpStill_nil ?_
  change wpList _ _ _ _ _ W2.drew
  have HC := HCMP W2.drew HRX2.out.drew HRP2.out.drew
  obtain ⟨cv, hcv⟩ : ∃ cv, cv = cmpI x p := ⟨_, rfl⟩
  rw [← hcv] at HC
  have hlt2 := cmpI_lt x p
  rw [← hcv] at hlt2
  have HCV := Lib.hid hlt2
  clear hcv hlt2 HCMP
  go_wp2_with fail
  refine HC.out.mono ?_
  rintro e w3 ⟨rfl, hb3⟩
  have HB3 := Lib.hid (HB2.out.drew.trans (hb3.mono HB2.out.size))
  have HRX3 := Lib.hid (HRX2.out.drew.below hb3)
  have HR03 := Lib.hid (HR02.out.drew.below hb3)
  have HRP3 := Lib.hid (HRP2.out.drew.below hb3)
  obtain ⟨hd0, hd1, hd2, hd3, hd4, hd5⟩ := HRX3.out.six
  clear hb3
  have hl3 : w1.heap.size < w3.heap.size := HRP3.out.lt
  by_cases hxp : x < p
  · have ht : decide (cv < 0) = true := by rw [HCV.out]; exact decide_eq_true hxp
    have HXP := Lib.hid (Nat.mod_eq_of_lt hxp)
    obtain ⟨hs0, hs1, hs2, hs3, hs4, hs5⟩ := HR03.out.six
    have hsf := HR03.out.frozen
    clear hxp
    go_wp2_with fail
    exact ret_elem rfl (w.heap.size + 1) [d0, d1, d2, d3, d4, d5] rfl (Row.put6 HR03.out ..) _ Tryz.underlying24 rfl (by kernel_rfl) rfl ⟨by rw [HXP.out, HE.out]; rfl, Below.put6 HB3.out (by omega) ..⟩
  · have ht : decide (cv < 0) = false := by rw [HCV.out]; exact decide_eq_false hxp
    clear hxp
    go_wp2_with fail
    generalize hW4 : World.alloc w3 _ = W4
    have HB4 : Hid (Below w.heap.size w W4) := by rw [← hW4]; exact HB3.out.alloc (by omega) _
    have HRX4 : Hid (Row W4 w.heap.size .u64 24 [d0, d1, d2, d3, d4, d5]) := by rw [← hW4]; exact HRX3.out.below ((Below.refl _ _).alloc (Nat.le_refl _) _)
    have HR04 : Hid (Row W4 (w.heap.size + 1) .u64 24 [0, 0, 0, 0, 0, 0]) := by rw [← hW4]; exact HR03.out.below ((Below.refl _ _).alloc (Nat.le_refl _) _)
    have HRP4 : Hid (Row W4 w1.heap.size .u64 166 [p0, p1, p2, p3, p4, p5]) := by rw [← hW4]; exact HRP3.out.below ((Below.refl _ _).alloc (Nat.le_refl _) _)
    have HRB4 : Hid (Row W4 w3.heap.size .u64 24 [0, 0, 0, 0, 0, 0]) := by rw [← hW4]; exact Row.alloc_at rfl rfl
    clear hW4 hd0 hd1 hd2 hd3 hd4 hd5
    have HDM := Lib.hid (divmod_any (some ⟨w.heap.size, 0, none⟩) (some ⟨w1.heap.size, 0, none⟩) 6 6 [d0, d1, d2, d3, d4, d5] [p0, p1, p2, p3, p4, p5] W4.drew (Nat.le_refl _) (Nat.le_refl _) nofun (by show 6 < _; omega) (HRX4.out.drew.rd (by show 6 ≤ _; omega)) (HRP4.out.drew.rd (by show 6 ≤ _; omega)) HDX.out HDP.out (by rw [HVP.out]; omega))
    rw [HVX.out, HVP.out] at HDM
    have hrl : (lm (x % p)).length ≤ 6 := length_dig_le (by decide) (Nat.lt_trans (Nat.mod_lt _ (by omega)) hp6)
    go_region_with (go_at_call 293; refine HDM.out.mono ?_; rintro e w5 ⟨v1, v2, rfl, hb5, hs1, A5, cap5, rfl, hc5, hr5, hA5⟩)
    have HB5 := Lib.hid (HB4.out.drew.trans (hb5.mono HB4.out.size))
    have HR05 := Lib.hid (HR04.out.drew.below hb5)
    have HRB5 := Lib.hid (HRB4.out.drew.below hb5)
    clear hb5 hs1 hc5 hA5 HDM
    have hl5 : w3.heap.size < w5.heap.size := HRB5.out.lt
    have hsb := sl24 w3.heap.size 0
    go_wp2_with (with_reducible refine copy_row64 rfl _ _ rfl w3.heap.size 0 6 6 rfl A5 _ cap5 rfl [0, 0, 0, 0, 0, 0] 24 HRB5.out (lm (x % p)) (Nat.min_eq_left hrl).symm hr5 ?hf w3.heap.size w5 (Below.refl _ _) (Nat.le_refl _) ?hh)
    case hf => show 0 + _ ≤ 6; omega
    case hh =>
      intro w6 hr6 hb6
      have HB6 := Lib.hid (HB5.out.trans (hb6.mono (by omega)))
      have hr7 : Row w6 w3.heap.size .u64 24 (digs B64 6 (x % p)) := by
        rw [digs_six hrl]
        simpa using hr6
      have HR06 : Hid (Row w6 (w.heap.size + 1) .u64 24 [0, 0, 0, 0, 0, 0]) := by
        show Row _ _ _ _ _
        unfold Row
        rw [hb6.block _ (by omega)]
        exact HR05.out
      obtain ⟨r0, r1, r2, r3, r4, r5, hrg, hre⟩ := elv_ex (x % p)
      have HRE := Lib.hid hre
      rw [hrg] at hr7
      obtain ⟨hq0, hq1, hq2, hq3, hq4, hq5⟩ := hr7.six
      obtain ⟨hs0, hs1, hs2, hs3, hs4, hs5⟩ := HR06.out.six
      have hsf := HR06.out.frozen
      clear hr6 hb6 hr7 hrg hre hr5
      go_wp2_with fail
      exact ret_elem rfl (w.heap.size + 1) [r0, r1, r2, r3, r4, r5] rfl (Row.put6 HR06.out ..) _ Tryz.underlying24 rfl (by kernel_rfl) rfl ⟨by rw [HRE.out]; rfl, Below.put6 HB6.out (by omega) ..⟩

set_option maxHeartbeats 4000000 in
set_option maxRecDepth 100000 in
theorem fin_any (f a p n v z x : Nat) (w : World) (hG : GAt w f a p n v z) (hx : x < B64 ^ 6) : Calls Tryz.prog 139 #[.pointer (some ⟨f, 0, none⟩), elv x] w (Ret w (me p n x)) := by
  have p1 := hG.fld.p1
  have HRD := fun w1 (h : GAt w1 f a p n v z) => reduce_any f a p n v z x w1 h hx
  have HTO := fun w1 (h : FldAt w1 a p n v) => to_me a p n v (x % p) w1 h (Nat.mod_lt _ (by omega))
  rw [me_mod] at HTO
  unfold me at HTO ⊢
  obtain ⟨d0, d1, d2, d3, d4, d5, hdg, he⟩ := elv_ex x
  obtain ⟨m0, m1, m2, m3, m4, m5, hmg, hme⟩ := elv_ex (x % p)
  obtain ⟨r0, r1, r2, r3, r4, r5, hrg, hre⟩ := elv_ex (x * B64 ^ n % p)
  have HRE := Lib.hid hre
  rw [he, hme] at HRD
  rw [hme, hre] at HTO
  rw [he]
  clear hdg he hmg hme hrg hre p1 hx
  have hm := hG.hm
  have hlt := hG.lt
  have hlt1 : f < w.heap.size + 1 := by omega
  have HG := Lib.hid hG
  clear hG
  go_enter Tryz.func139, Tryz.ntmps139
  go_wp2_with fail
  generalize hW2 : World.alloc (w.alloc _) _ = W2
  have HB2 : Hid (Below w.heap.size w W2) := by rw [← hW2]; exact ((Below.refl _ _).alloc (Nat.le_refl _) _).alloc (by simp) _
  have HRX2 : Hid (Row W2 w.heap.size .u64 24 [d0, d1, d2, d3, d4, d5]) := by rw [← hW2]; exact Row.below (Row.alloc_at (w := w) rfl rfl) ((Below.refl _ _).alloc (Nat.le_refl _) _)
  have HR02 : Hid (Row W2 (w.heap.size + 1) .u64 166 [0, 0, 0, 0, 0, 0]) := by rw [← hW2]; exact Row.alloc_at rfl (by simp)
  have HG2 := Lib.hid (HG.out.below HB2.out)
  have hm2 := HG2.out.hm
  obtain ⟨hd0, hd1, hd2, hd3, hd4, hd5⟩ := HRX2.out.six
  clear hW2 hm
  have HRD2 := Lib.hid (HRD W2.drew (HG.out.below HB2.out.drew))
  go_region_with (first
    | (go_at_call 213; refine HRD2.out.mono ?_; rintro e w3 ⟨rfl, hb3⟩
       have HB3 := Lib.hid (HB2.out.drew.trans (hb3.mono HB2.out.size))
       have HR03 := Lib.hid (HR02.out.drew.below hb3)
       have hm3 := (HG.out.below HB3.out).hm
       clear hb3)
    | (go_at_call 233; refine (HTO _ (HG.out.fld.below HB3.out)).mono ?_; rintro e w4 ⟨rfl, hb4⟩
       have HB4 := Lib.hid (HB3.out.trans (hb4.mono HB3.out.size))
       have HR04 := Lib.hid (HR03.out.below hb4)
       obtain ⟨hs0, hs1, hs2, hs3, hs4, hs5⟩ := HR04.out.six
       have hsf := HR04.out.frozen
       clear hb4))
  all_goals
    go_wp2_with fail
    exact ret_elem rfl (w.heap.size + 1) [r0, r1, r2, r3, r4, r5] rfl (Row.put6 HR04.out ..) _ Tryz.underlying166 rfl (by kernel_rfl) rfl ⟨by rw [HRE.out]; rfl, Below.put6 HB4.out (by omega) ..⟩
end Go.Proofs.YtjokcbjahidckaaGreat
/-! field.Hex: limbs out of hex digits. Conditions: digits 0-9, a-f, a multiple of 16 of them. -/
namespace Go.Proofs.YtjokcbjahidckaaGreat
open Go.RowKit

/-- What a hex digit is worth. -/
def hexv (c : Nat) : Nat := if 97 ≤ c then c - 97 + 10 else c - 48
def isHex (c : Nat) : Prop := (48 ≤ c ∧ c ≤ 57) ∨ (97 ≤ c ∧ c ≤ 102)
theorem hexv_lt {c : Nat} (h : isHex c) : hexv c < 16 := by unfold isHex at h; unfold hexv; split <;> omega

/-- The digits' number, the last one lowest. -/
def hexN (bs : List Nat) : Nat := ofD 16 (bs.reverse.map hexv)

/-- A digit is put into a limb above what stands there. -/
theorem or_put16 (x c r : Nat) (hx : x < 16 ^ r) (hc : c < 16) (hr : r < 16) :
    bits .or .u64 (x : Int) (IntKind.u64.wrap ((c : Int) * 2 ^ (r * 4))) = ((x + c * 16 ^ r : Nat) : Int) := by
  have e16 : (2 : Nat) ^ (r * 4) = 16 ^ r := by rw [Nat.mul_comm, Nat.pow_mul]
  have hcr : c * 16 ^ r < 16 ^ (r + 1) := by rw [Nat.pow_succ, Nat.mul_comm]; exact Nat.mul_lt_mul_of_pos_left hc (Nat.pow_pos (by decide))
  have hle : 16 ^ (r + 1) ≤ 16 ^ 16 := Nat.pow_le_pow_right (by decide) (by omega)
  have hle2 : 16 ^ r ≤ 16 ^ 16 := Nat.pow_le_pow_right (by decide) (by omega)
  have h8 : (16 : Nat) ^ 16 = 18446744073709551616 := by decide
  have e1 : (c : Int) * 2 ^ (r * 4) = ((c * 16 ^ r : Nat) : Int) := by
    rw [Int.natCast_mul, ← e16, Int.natCast_pow]; rfl
  have w2 : IntKind.u64.wrap ((c * 16 ^ r : Nat) : Int) = ((c * 16 ^ r : Nat) : Int) := by rw [IntKind.wrap_u64]; omega
  rw [e1, w2, u64_or_nat x _ (by omega) (by omega), Nat.or_comm, nat_join (4 * r), Nat.add_comm]
  · rw [← e16, Nat.mul_comm r 4, Nat.mul_mod_left]
  · rw [Nat.pow_mul]; exact hx

theorem hex_low {zs L : List Nat} {k : Nat} (hd : Digs B64 zs) (hv : ofD B64 zs = ofD 16 (L.take k)) (hL : Digs 16 (L.take k)) (hk : k / 16 < zs.length) : zs.getD (k / 16) 0 < 16 ^ (k % 16) := by
  rw [getD_ofD (by decide) hd hk, hv]
  have h1 : ofD 16 (L.take k) < 16 ^ k := Nat.lt_of_lt_of_le (ofD_lt hL) (Nat.pow_le_pow_right (by decide) (by rw [List.length_take]; omega))
  have e : 16 ^ k = B64 ^ (k / 16) * 16 ^ (k % 16) := by
    rw [show B64 = 16 ^ 16 from by decide, ← Nat.pow_mul, ← Nat.pow_add]
    congr 1; omega
  refine Nat.lt_of_le_of_lt (Nat.mod_le _ _) (Nat.div_lt_of_lt_mul ?_)
  rw [← e]; exact h1

theorem hex_digs (s : ByteArray) (hh : ∀ i (h : i < s.size), isHex (s[i]'h).toNat) : Digs 16 ((s.data.toList.map UInt8.toNat).reverse.map hexv) := by
  intro d hd
  obtain ⟨c, hc, rfl⟩ := List.mem_map.1 hd
  rw [List.mem_reverse] at hc
  obtain ⟨u, hu, rfl⟩ := List.mem_map.1 hc
  obtain ⟨i, hi, rfl⟩ := List.mem_iff_getElem.1 hu
  exact hexv_lt (hh i (by simpa using hi))

theorem hex_at (s : ByteArray) (m k : Nat) (hs : s.size = 16 * m) (hk : k < 16 * m) : (((s.data.toList.map UInt8.toNat).reverse).map hexv).getD k 0 = hexv (s[16 * m - 1 - k]'(by omega)).toNat := by
  have h2 : s.data.size = 16 * m := hs
  have h3 : s.data.toList.length = 16 * m := by simpa using h2
  rw [List.getD_eq_getElem?_getD, List.getElem?_eq_getElem (by simp; omega)]
  simp only [Option.getD_some, List.getElem_map, List.getElem_reverse, List.length_map, h3]
  rfl

set_option maxHeartbeats 4000000 in
set_option maxRecDepth 100000 in
theorem hex_any (s : ByteArray) (m : Nat) (hs : s.size = 16 * m) (hm : m ≤ 1000) (hh : ∀ i (h : i < s.size), isHex (s[i]'h).toNat) (w : World) :
    Calls Tryz.prog 244 #[.string s] w (RetSl w .u64 (digs B64 m (hexN (s.data.toList.map UInt8.toNat)))) := by
  have HH := Lib.hid hh
  have HL := Lib.hid (hex_digs s hh)
  have hmk := mk64 (m : Int) m rfl (by omega)
  have hsz : (s.size : Int) = 16 * (m : Int) := by omega
  clear hh
  go_enter Tryz.func244, Tryz.ntmps244
  go_wp2_with fail
  go_loopw [4] (fun _ wr => ∃ (k : Nat) (W : World) (zs : List Nat), k ≤ 16 * m ∧ wr = W.iter s k ∧ W.heap.size = w.heap.size + 1 ∧ Below w.heap.size w W ∧ Row W w.heap.size .u64 22 zs ∧ zs.length = m ∧ Digs B64 zs ∧
    ofD B64 zs = ofD 16 (((s.data.toList.map UInt8.toNat).reverse.map hexv).take k)) (fun _ wr => 16 * m - wr.iterPos (w.heap.size + 1))
  case atStart => exact ⟨0, w.alloc _, List.replicate m 0, Nat.zero_le _, rfl, by simp, (Below.refl _ _).alloc (Nat.le_refl _) _, Row.alloc rfl, by simp, Digs.replicate (by decide) _, by rw [ofD_replicate]; simp [ofD]⟩
  case round =>
    obtain ⟨k, W, zs, hk, rfl, hWs, hb, hrow, hzl, hdz, hval⟩ := hrel
    have HB := Lib.hid hb
    have HROW := Lib.hid hrow
    have HZL := Lib.hid hzl
    have HDZ := Lib.hid hdz
    have HV := Lib.hid hval
    clear hb hrow hzl hdz hval
    by_cases hlt : k < 16 * m
    · have hks : k < s.size := by omega
      have hnx := fun ty => run_next_ascii (P := Tryz.prog) W s k ty hks (by have := HH.out k hks; unfold isHex at this; omega)
      rw [hWs] at hnx
      have hkm : k / 16 < zs.length := by rw [HZL.out]; omega
      have HB1 : Hid (Below W.heap.size W (W.iter s (k + 1))) := (Below.refl _ _).alloc (Nat.le_refl _) _
      have HROW1 := Lib.hid (HROW.out.below HB1.out)
      have hc := HROW1.out.cell hkm
      have hf := HROW1.out.frozen (k / 16)
      have hq1 : IntKind.i64.wrap ((k : Int) / 16) = (k : Int) / 16 := IntWalk.i64_in _ (by omega)
      obtain ⟨c, hcc⟩ : ∃ c, (s[16 * m - 1 - k]'(by omega)).toNat = c := ⟨_, rfl⟩
      have hcx : isHex c := hcc ▸ HH.out _ _
      obtain ⟨d, hd⟩ : ∃ d, d = hexv c := ⟨_, rfl⟩
      have hd16 : d < 16 := by rw [hd]; exact hexv_lt hcx
      have hr16 : k % 16 < 16 := Nat.mod_lt _ (by decide)
      obtain ⟨x, hxx⟩ : ∃ x, zs.getD (k / 16) 0 = x := ⟨_, rfl⟩
      rw [hxx] at hc
      have hxl : x < 16 ^ (k % 16) := by
        rw [← hxx]
        exact hex_low HDZ.out HV.out (HL.out.take _) hkm
      have hor := or_put16 x d (k % 16) hxl hd16 hr16
      obtain ⟨y, hy⟩ : ∃ y, y = x + d * 16 ^ (k % 16) := ⟨_, rfl⟩
      rw [← hy] at hor
      have HFIN : Hid ((∃ (k_1 : Nat) (W_1 : World) (zs : List Nat), k_1 ≤ 16 * m ∧ ((W.iter s (k + 1)).setCell ⟨w.heap.size, k / 16, none⟩ (.int .u64 ((y : Nat) : Int))).drew = W_1.iter s k_1 ∧ W_1.heap.size = w.heap.size + 1 ∧ Below w.heap.size w W_1 ∧ Row W_1 w.heap.size .u64 22 zs ∧ zs.length = m ∧ Digs B64 zs ∧
          ofD B64 zs = ofD 16 (((s.data.toList.map UInt8.toNat).reverse.map hexv).take k_1)) ∧ 16 * m - (((W.iter s (k + 1)).setCell ⟨w.heap.size, k / 16, none⟩ (.int .u64 ((y : Nat) : Int))).drew).iterPos (w.heap.size + 1) < 16 * m - (W.iter s k).iterPos (w.heap.size + 1)) := by
        have hW : ((W.iter s (k + 1)).setCell ⟨w.heap.size, k / 16, none⟩ (.int .u64 (y : Nat))).drew = ((W.setCell ⟨w.heap.size, k / 16, none⟩ (.int .u64 (y : Nat))).drew).iter s (k + 1) := by
          unfold World.iter
          rw [World.setCell_alloc_past _ _ _ _ (by omega)]
          rfl
        have hlen : (((s.data.toList.map UInt8.toNat).reverse).map hexv).length = 16 * m := by
          simp; have : s.data.size = s.size := rfl; omega
        have hLk : (((s.data.toList.map UInt8.toNat).reverse).map hexv).getD k 0 = d := by
          rw [hd, ← hcc]
          exact hex_at s m k hs hlt
        refine ⟨⟨k + 1, (W.setCell ⟨w.heap.size, k / 16, none⟩ (.int .u64 (y : Nat))).drew, zs.set (k / 16) y, hlt, ?_, by simp; exact hWs, (HB.out.setCell (Nat.le_refl _) _).drew, (HROW.out.set _ _).drew, by rw [List.length_set]; exact HZL.out, HDZ.out.set _ ?_, ?_⟩, ?_⟩
        · exact hW
        · rw [hy]
          have h1 : d * 16 ^ (k % 16) ≤ 15 * 16 ^ (k % 16) := Nat.mul_le_mul_right _ (by omega)
          have h2 : 16 * 16 ^ (k % 16) ≤ 16 ^ 16 := by rw [Nat.mul_comm, ← Nat.pow_succ]; exact Nat.pow_le_pow_right (by decide) (by omega)
          have h3 : B64 = 16 ^ 16 := by decide
          omega
        · rw [ofD_take_succ (B := 16) (by rw [hlen]; exact hlt), hLk, ← HV.out]
          have h1 := ofD_set (B := B64) (xs := zs) (i := k / 16) (v := y) hkm
          rw [hxx, hy, Nat.mul_add] at h1
          have e : B64 ^ (k / 16) * (d * 16 ^ (k % 16)) = 16 ^ k * d := by
            rw [show B64 = 16 ^ 16 from by decide, ← Nat.pow_mul, Nat.mul_comm d, ← Nat.mul_assoc, ← Nat.pow_add]
            congr 2; omega
          rw [e] at h1
          rw [hy]
          generalize B64 ^ (k / 16) * x = q at h1
          omega
        · rw [hW]
          have h1 : ((W.setCell ⟨w.heap.size, k / 16, none⟩ (.int .u64 (y : Nat))).drew).heap.size = w.heap.size + 1 := by simp; exact hWs
          have h2 : (W.iter s k).iterPos (w.heap.size + 1) = k := by simp only [World.iterPos, ← hWs, World.iter_heap]
          have h3 : (((W.setCell ⟨w.heap.size, k / 16, none⟩ (.int .u64 (y : Nat))).drew).iter s (k + 1)).iterPos (w.heap.size + 1) = k + 1 := by simp only [World.iterPos, ← h1, World.iter_heap]
          rw [h2, h3]
          omega
      have HCX := Lib.hid hcx
      have HD := Lib.hid hd
      have HXX := Lib.hid hxx
      clear hxx hd hcx hy
      by_cases h97 : 97 ≤ c
      · have hcb : c ≤ 102 := by have := HCX.out; unfold isHex at this; omega
        have e1 : (c : Int) - 97 + 10 = (d : Int) := by have := HD.out; unfold hexv at this; rw [if_pos h97] at this; omega
        go_wp2_with fail
        go_region
        go_wp2_with fail
        exact HFIN.out
      · have e1 : (c : Int) - 48 = (d : Int) := by have := HD.out; unfold hexv at this; rw [if_neg h97] at this; have := HCX.out; unfold isHex at this; omega
        have hcb : 48 ≤ c := by have := HCX.out; unfold isHex at this; omega
        go_wp2_with fail
        go_region
        go_wp2_with fail
        exact HFIN.out
    · have hnx := fun ty => run_next_end (P := Tryz.prog) W s k ty (by omega)
      rw [hWs] at hnx
      go_wp2_with fail
      go_ret
      have hb2 : Below W.heap.size W (W.iter s k) := (Below.refl _ _).alloc (Nat.le_refl _) _
      refine ⟨_, rfl, HB.out.trans (hb2.mono (by omega)), some ⟨w.heap.size, 0, none⟩, m, ?_⟩
      have he : ofD B64 zs = hexN (s.data.toList.map UInt8.toNat) := by
        rw [HV.out, List.take_of_length_le (by simp; have : s.data.size = s.size := rfl; omega)]
        rfl
      have hz : digs B64 m (hexN (s.data.toList.map UInt8.toNat)) = zs := by rw [← he, ← HZL.out, digs_ofD (by decide) HDZ.out]
      rw [hz]
      exact ⟨by rw [HZL.out]; rfl, by rw [HZL.out]; exact Nat.le_refl _, (HROW.out.below hb2).rd (by rw [HZL.out]; omega), nofun⟩
end Go.Proofs.YtjokcbjahidckaaGreat
/-! curve.number: a number out of hex digits. Conditions: digits 0-9, a-f, 16 m of them, m at most 6. -/
namespace Go.Proofs.YtjokcbjahidckaaGreat
open Go.RowKit

theorem digs_more {B : Nat} (hB : 1 < B) {n m k : Nat} (h : n < B ^ m) (hk : m ≤ k) : digs B k n = digs B m n ++ List.replicate (k - m) 0 := by
  have h2 : n < B ^ k := Nat.lt_of_lt_of_le h (Nat.pow_le_pow_right (by omega) hk)
  rw [digs_eq hB h2, digs_eq hB h, List.append_assoc, List.replicate_append_replicate]
  have := length_dig_le hB h
  congr 2
  omega

theorem hexN_lt (s : ByteArray) (m : Nat) (hs : s.size = 16 * m) (hh : ∀ i (h : i < s.size), isHex (s[i]'h).toNat) : hexN (s.data.toList.map UInt8.toNat) < B64 ^ m := by
  have h := ofD_lt (hex_digs s hh)
  have e : ((s.data.toList.map UInt8.toNat).reverse.map hexv).length = 16 * m := by simp; have : s.data.size = s.size := rfl; omega
  rw [e, Nat.pow_mul] at h
  exact h

/-- A copy into a block of type t, as a step of a region that draws. -/
theorem step_copy_t {ops : Array Oper} {o : Oper} {a : Act} {w : World} {K : Act → World → Prop} {Q : Exit → Act → World → Prop} {E : Prop} (hgd : o.guard = none) (d s : Operand)
    (ho : o.op = .call { callee := .builtin .copy, args := #[d, s], argTypes := #[86, 86] }) (t : Nat) (g off : Nat) (hd : a.eval d = .slice (some ⟨g, off, none⟩) 6 6) (A : Option Addr) (sLen sCap : Nat) (hs : a.eval s = .slice A sLen sCap)
    (cur : List Value) (hg : w.heap[g]? = some (.cells cur.toArray t (0, 0))) (xs : List Nat) (hxl : xs.length = Nat.min sLen 6) (hr : Rd w .u64 A xs) (hfit : off + xs.length ≤ cur.length)
    (h : ∀ w', Hid (w'.heap[g]? = some (.cells (splice cur off (xs.map fun n : Nat => Value.int .u64 (n : Int))).toArray t (0, 0))) → OnlyB g w w' → K (a.put o.dst (goInt xs.length)) w') :
    if Region.wanted o (yielded ops a.tmps) = true then Oper.wp Tryz.prog o a w K Q else E := by
  have hw : Region.wanted o (yielded ops a.tmps) = true := by simp [Region.wanted, hgd]
  rw [if_pos hw]
  have hn : (xs.map fun n : Nat => Value.int .u64 (n : Int)).length = Nat.min sLen 6 := by simpa using hxl
  by_cases h0 : xs.length = 0
  · obtain rfl : xs = [] := List.eq_nil_of_length_eq_zero h0
    have hrun := run_copy_none (P := Tryz.prog) w 86 86 o.type 22 (some ⟨g, off, none⟩) A 6 6 sLen sCap Tryz.underlying86 (by kernel_rfl) (by simpa using hn.symm)
    unfold Oper.wp
    simp [execOp, ho, resolve, invoke, builtin, hd, hs, hrun, Result.andThen]
    exact h w (show _ = _ by simpa [splice] using hg) (OnlyB.refl _ _)
  · have hsrc : ∃ ad, A = some ad ∧ ∀ j v, (xs.map fun n : Nat => Value.int .u64 (n : Int))[j]? = some v → w.cell? (ad.add j) = some v := by
      rcases hr.2 with e | ⟨b, off', e, hx⟩
      · rw [e] at h0; simp at h0
      · refine ⟨_, e, fun j v hj => ?_⟩
        have hj2 : j < xs.length := by
          rcases Nat.lt_or_ge j xs.length with h | h
          · exact h
          · rw [List.getElem?_eq_none (by simpa using h)] at hj; cases hj
        rw [Addr.add_mid, hx j hj2, ← hj]
        simp [List.getD_eq_getElem?_getD, hj2]
    obtain ⟨ad, rfl, hsrc⟩ := hsrc
    have h1 : ∀ v ∈ (xs.map fun n : Nat => Value.int .u64 (n : Int)), v.oneCell' = true := by
      intro v hv
      obtain ⟨n, _, rfl⟩ := List.mem_map.1 hv
      rfl
    have hrun := run_copy_row (P := Tryz.prog) w 86 86 o.type 22 g off 6 6 ad sLen sCap cur.toArray t (xs.map fun n : Nat => Value.int .u64 (n : Int)) Tryz.underlying86 (by kernel_rfl) hg hn hsrc (by simpa using hfit) h1
    have hln : xs.length = (xs.map fun n : Nat => Value.int .u64 (n : Int)).length := by simp
    rw [hln] at h
    generalize (xs.map fun n : Nat => Value.int .u64 (n : Int)) = cs at *
    unfold Oper.wp
    simp [execOp, ho, resolve, invoke, builtin, hd, hs, hrun, Result.andThen]
    exact h _ (show _ = _ by simpa [splice] using setRow_heap w g _ _ t _ hg) (OnlyB.setRow w g _)

set_option maxHeartbeats 4000000 in
set_option maxRecDepth 100000 in
theorem number_any (s : ByteArray) (m : Nat) (hs : s.size = 16 * m) (hm : m ≤ 6) (hh : ∀ i (h : i < s.size), isHex (s[i]'h).toNat) (w : World) :
    Calls Tryz.prog 207 #[.string s] w (Ret w (elv (hexN (s.data.toList.map UInt8.toNat)))) := by
  have HX := fun w1 => Lib.hid (hex_any s m hs (by omega) hh w1)
  have HLT := Lib.hid (hexN_lt s m hs hh)
  obtain ⟨N, hN⟩ : ∃ N, N = hexN (s.data.toList.map UInt8.toNat) := ⟨_, rfl⟩
  rw [← hN] at HX HLT ⊢
  clear hN hh
  have hsa := sl24 (w.heap.size + 1) 0
  go_enter Tryz.func207, Tryz.ntmps207
  go_wp2_with fail
  have HRS := Lib.hid (Row.below (Row.alloc_at (w := w.alloc (.cells #[.int .u64 0, .int .u64 0, .int .u64 0, .int .u64 0, .int .u64 0, .int .u64 0] 24 (0, 0))) (n := w.heap.size + 1) (k := .u64) (t := 24) (xs := [0, 0, 0, 0, 0, 0]) rfl (by simp)) (Below.refl _ _))
  go_region_law (first
    | (go_simp; go_at_call 244; refine (HX _).out.mono ?_; rintro e w1 ⟨v1, rfl, hb1, A1, cap1, rfl, hc1, hr1, hA1⟩
       have HB1 := Lib.hid ((((Below.refl w.heap.size w).alloc (Nat.le_refl _) _).alloc (by simp) _).drew.trans (hb1.mono (by simp; omega)))
       have HRR := Lib.hid (Row.below (Row.below (Row.alloc_at (w := w) (n := w.heap.size) (k := .u64) (t := 24) (xs := [0, 0, 0, 0, 0, 0]) rfl rfl) ((Below.refl _ _).alloc (Nat.le_refl _) _).drew) hb1)
       have HRB := Lib.hid (Row.below HRS.out.drew hb1)
       clear hb1 hc1 hA1)
    | (refine step_copy_t rfl (.tmp 4) (.tmp 6) rfl 24 (w.heap.size + 1) 0 rfl A1 _ cap1 rfl (cellsOf .u64 [0, 0, 0, 0, 0, 0]).toList HRB.out _ (by rw [length_digs]; exact (Nat.min_eq_left hm).symm) hr1 (by rw [length_digs]; simp [cellsOf]; omega) ?_; intro w6 hg6 hb6))
  have HB6 := Lib.hid (HB1.out.trans (hb6.below (by omega)))
  have hr7 : Row w6 (w.heap.size + 1) .u64 24 (digs B64 6 N) := by
    rw [digs_more (by decide) HLT.out hm]
    have hll : (digs B64 m N).length = m := length_digs ..
    have : m = 0 ∨ m = 1 ∨ m = 2 ∨ m = 3 ∨ m = 4 ∨ m = 5 ∨ m = 6 := by omega
    show _ = _
    refine hg6.out.trans ?_
    generalize digs B64 m N = L at *
    clear hg6 hb6
    subst hll
    rcases this with h | h | h | h | h | h | h <;> rw [h] <;> simp [splice, cellsOf, h]
  have HRR6 : Hid (Row w6 w.heap.size .u64 24 [0, 0, 0, 0, 0, 0]) := hb6.row (by omega) HRR.out
  obtain ⟨r0, r1, r2, r3, r4, r5, hrg, hre⟩ := elv_ex N
  have HRE := Lib.hid hre
  rw [hrg] at hr7
  obtain ⟨hq0, hq1, hq2, hq3, hq4, hq5⟩ := hr7.six
  obtain ⟨hs0, hs1, hs2, hs3, hs4, hs5⟩ := HRR6.out.six
  have hsf := HRR6.out.frozen
  clear hb6 hr7 hrg hre hr1
  go_wp2_with fail
  exact ret_elem rfl w.heap.size [r0, r1, r2, r3, r4, r5] rfl (Row.put6 HRR6.out ..) _ Tryz.underlying24 rfl (by kernel_rfl) rfl ⟨by rw [HRE.out]; rfl, Below.put6 HB6.out (Nat.le_refl _) ..⟩
end Go.Proofs.YtjokcbjahidckaaGreat
/-! Primes: Fermat's theorem, and a test by the primes of p - 1. No condition. -/
namespace Go.Proofs.YtjokcbjahidckaaGreat

/-- A prime number. -/
structure IsPrime (p : Nat) : Prop where
  two : 2 ≤ p
  only : ∀ d, d ∣ p → d = 1 ∨ d = p

theorem IsPrime.coprime {p a : Nat} (h : IsPrime p) (ha : ¬ p ∣ a) : Nat.Coprime p a := by
  rcases h.only (Nat.gcd p a) (Nat.gcd_dvd_left p a) with e | e
  · exact e
  · exact absurd (e ▸ Nat.gcd_dvd_right p a) ha

theorem IsPrime.dvd_mul {p a b : Nat} (h : IsPrime p) (hab : p ∣ a * b) : p ∣ a ∨ p ∣ b := by
  by_cases ha : p ∣ a
  · exact .inl ha
  · exact .inr (Nat.Coprime.dvd_of_dvd_mul_left (h.coprime ha) hab)

/-- Every number from 2 on has a least divisor, which is prime. -/
theorem least_factor (n : Nat) (hn : 2 ≤ n) : ∃ q, IsPrime q ∧ q ∣ n ∧ ∀ d, 2 ≤ d → d ∣ n → q ≤ d := by
  have key : ∀ k, (∃ d, 2 ≤ d ∧ d ≤ k ∧ d ∣ n) → ∃ q, 2 ≤ q ∧ q ∣ n ∧ ∀ d, 2 ≤ d → d ∣ n → q ≤ d := by
    intro k
    induction k with
    | zero => rintro ⟨d, h1, h2, _⟩; omega
    | succ k ih =>
      intro h
      by_cases hk : ∃ d, 2 ≤ d ∧ d ≤ k ∧ d ∣ n
      · exact ih hk
      · obtain ⟨d, h1, h2, h3⟩ := h
        refine ⟨d, h1, h3, fun e he hen => ?_⟩
        rcases Nat.lt_or_ge e d with hlt | hge
        · exact absurd ⟨e, he, by omega, hen⟩ hk
        · exact hge
  obtain ⟨q, h1, h2, h3⟩ := key n ⟨n, hn, Nat.le_refl _, Nat.dvd_refl _⟩
  refine ⟨q, ⟨h1, fun d hd => ?_⟩, h2, h3⟩
  rcases Nat.lt_or_ge d 2 with h | h
  · have : d ≠ 0 := by rintro rfl; have := Nat.eq_zero_of_zero_dvd hd; omega
    left; omega
  · right
    have a := h3 d h (Nat.dvd_trans hd h2)
    have b := Nat.le_of_dvd (by omega) hd
    omega

/-! ### Binomials -/
def choose : Nat → Nat → Nat
  | _, 0 => 1
  | 0, _ + 1 => 0
  | n + 1, k + 1 => choose n k + choose n (k + 1)

theorem choose_zero_right (n : Nat) : choose n 0 = 1 := by cases n <;> rfl

theorem choose_gt : ∀ (n k : Nat), n < k → choose n k = 0
  | 0, 0, h => by omega
  | 0, _ + 1, _ => rfl
  | n + 1, 0, h => by omega
  | n + 1, k + 1, h => by
    show choose n k + choose n (k + 1) = 0
    rw [choose_gt n k (by omega), choose_gt n (k + 1) (by omega)]

theorem choose_self : ∀ (n : Nat), choose n n = 1
  | 0 => rfl
  | n + 1 => by
    show choose n n + choose n (n + 1) = 1
    rw [choose_self n, choose_gt n (n + 1) (by omega)]

theorem choose_mul : ∀ (n k : Nat), (k + 1) * choose (n + 1) (k + 1) = (n + 1) * choose n k
  | 0, 0 => rfl
  | 0, k + 1 => by
    show (k + 1 + 1) * (choose 0 (k + 1) + choose 0 (k + 2)) = _
    simp [choose]
  | n + 1, 0 => by
    have ih := choose_mul n 0
    simp only [choose_zero_right] at *
    show (0 + 1) * (choose (n + 1) 0 + choose (n + 1) 1) = _
    simp only [choose_zero_right, Nat.zero_add, Nat.one_mul, Nat.mul_one] at *
    omega
  | n + 1, k + 1 => by
    have i1 := choose_mul n k
    have i2 := choose_mul n (k + 1)
    show (k + 1 + 1) * (choose (n + 1) (k + 1) + choose (n + 1) (k + 2)) = (n + 1 + 1) * choose (n + 1) (k + 1)
    have e : choose (n + 1) (k + 1) = choose n k + choose n (k + 1) := rfl
    have : (k + 1 + 1) * choose (n + 1) (k + 1 + 1) = (n + 1) * choose n (k + 1) := i2
    generalize choose (n + 1) (k + 1 + 1) = z at *
    generalize choose (n + 1) (k + 1) = y at *
    generalize choose n (k + 1) = v at *
    generalize choose n k = u at *
    subst e
    grind

theorem dvd_choose {p k : Nat} (hp : IsPrime p) (h0 : 0 < k) (h1 : k < p) : p ∣ choose p k := by
  obtain ⟨n, rfl⟩ : ∃ n, p = n + 1 := ⟨p - 1, by have := hp.two; omega⟩
  obtain ⟨j, rfl⟩ : ∃ j, k = j + 1 := ⟨k - 1, by omega⟩
  have h := choose_mul n j
  have hd : (n + 1) ∣ (j + 1) * choose (n + 1) (j + 1) := ⟨choose n j, h⟩
  rcases hp.dvd_mul hd with h2 | h2
  · have := Nat.le_of_dvd (by omega) h2
    omega
  · exact h2

def bsum : Nat → (Nat → Nat) → Nat
  | 0, _ => 0
  | n + 1, f => bsum n f + f n

theorem bsum_add (f g : Nat → Nat) : ∀ n, bsum n (fun k => f k + g k) = bsum n f + bsum n g
  | 0 => rfl
  | n + 1 => by
    show bsum n _ + (f n + g n) = bsum n f + f n + (bsum n g + g n)
    rw [bsum_add f g n]; omega
theorem bsum_mul (c : Nat) (f : Nat → Nat) : ∀ n, bsum n (fun k => f k * c) = bsum n f * c
  | 0 => by simp [bsum]
  | n + 1 => by
    show bsum n _ + _ = (bsum n f + f n) * c
    rw [bsum_mul c f n, Nat.add_mul]
theorem bsum_head (f : Nat → Nat) : ∀ n, bsum (n + 1) f = f 0 + bsum n (fun k => f (k + 1))
  | 0 => by simp [bsum]
  | n + 1 => by
    show bsum (n + 1) f + f (n + 1) = f 0 + (bsum n _ + f (n + 1))
    rw [bsum_head f n]; omega
theorem bsum_dvd {p : Nat} (f : Nat → Nat) : ∀ n, (∀ k, k < n → p ∣ f k) → p ∣ bsum n f
  | 0, _ => ⟨0, by simp [bsum]⟩
  | n + 1, h => Nat.dvd_add (bsum_dvd f n fun k hk => h k (by omega)) (h n (by omega))

theorem binom1 (x : Nat) : ∀ n, (x + 1) ^ n = bsum (n + 1) (fun k => choose n k * x ^ k)
  | 0 => by simp [bsum, choose]
  | n + 1 => by
    rw [Nat.pow_succ, binom1 x n, bsum_head _ (n + 1)]
    have e1 : bsum (n + 1) (fun k => choose (n + 1) (k + 1) * x ^ (k + 1)) = bsum (n + 1) (fun k => choose n k * x ^ k * x) + bsum (n + 1) (fun k => choose n (k + 1) * x ^ (k + 1)) := by
      rw [← bsum_add]
      congr 1
      funext k
      show (choose n k + choose n (k + 1)) * x ^ (k + 1) = _
      rw [Nat.add_mul, Nat.pow_succ, ← Nat.mul_assoc]
    have e2 : choose (n + 1) 0 * x ^ 0 + bsum (n + 1) (fun k => choose n (k + 1) * x ^ (k + 1)) = bsum (n + 1) (fun k => choose n k * x ^ k) := by
      have h := bsum_head (fun k => choose n k * x ^ k) (n + 1)
      have h2 : bsum (n + 1 + 1) (fun k => choose n k * x ^ k) = bsum (n + 1) (fun k => choose n k * x ^ k) + choose n (n + 1) * x ^ (n + 1) := rfl
      rw [choose_gt n (n + 1) (by omega), Nat.zero_mul] at h2
      have h3 := h.symm.trans h2
      simp only [choose_zero_right, Nat.add_zero] at h3 ⊢
      exact h3
    rw [e1, bsum_mul, Nat.mul_add, Nat.mul_one]
    omega

theorem dvd_sub_iff {n x y : Nat} (h : x ≤ y) : n ∣ y - x ↔ x % n = y % n := by
  constructor
  · rintro ⟨c, hc⟩
    rw [show y = x + n * c from by omega, Nat.add_mul_mod_self_left]
  · intro e
    have h1 := Nat.div_add_mod x n
    have h2 := Nat.div_add_mod y n
    refine ⟨y / n - x / n, ?_⟩
    rw [Nat.mul_sub]
    omega

/-- Fermat. -/
theorem fermat {p : Nat} (hp : IsPrime p) : ∀ a, a ^ p % p = a % p
  | 0 => by rw [Nat.zero_pow (by have := hp.two; omega)]
  | a + 1 => by
    have ih := fermat hp a
    obtain ⟨m, hm⟩ : ∃ m, p = m + 1 := ⟨p - 1, by have := hp.two; omega⟩
    have h : ∃ c, (a + 1) ^ p = 1 + p * c + a ^ p := by
      obtain ⟨c, hc⟩ : p ∣ bsum m (fun k => choose p (k + 1) * a ^ (k + 1)) := by
        refine bsum_dvd _ m fun k hk => Nat.dvd_trans (dvd_choose hp (by omega) (by omega)) (Nat.dvd_mul_right _ _)
      refine ⟨c, ?_⟩
      rw [binom1]
      show bsum p _ + choose p p * a ^ p = _
      rw [choose_self, Nat.one_mul, ← hc]
      rw [show bsum p (fun k => choose p k * a ^ k) = bsum (m + 1) (fun k => choose p k * a ^ k) from by rw [← hm], bsum_head]
      rw [choose_zero_right, Nat.pow_zero]
    obtain ⟨c, hc⟩ := h
    rw [hc, show 1 + p * c + a ^ p = p * c + (a ^ p + 1) from by omega, Nat.mul_add_mod, ← Nat.mod_add_mod, ih, Nat.mod_add_mod]

theorem mod_mul_cancel {p a x y : Nat} (hp : IsPrime p) (ha : ¬ p ∣ a) (h : a * x % p = a * y % p) : x % p = y % p := by
  have key : ∀ x y : Nat, x ≤ y → a * x % p = a * y % p → x % p = y % p := by
    intro x y hxy h
    have h1 : p ∣ a * y - a * x := (dvd_sub_iff (Nat.mul_le_mul_left a hxy)).2 h
    rw [← Nat.mul_sub] at h1
    rcases hp.dvd_mul h1 with h2 | h2
    · exact absurd h2 ha
    · exact (dvd_sub_iff hxy).1 h2
  rcases Nat.le_total x y with hxy | hxy
  · exact key x y hxy h
  · exact (key y x hxy h.symm).symm

theorem fermat1 {p a : Nat} (hp : IsPrime p) (ha : ¬ p ∣ a) : a ^ (p - 1) % p = 1 := by
  have h2 := hp.two
  have h := fermat hp a
  have e : p = (p - 1) + 1 := by omega
  have h1 : a * a ^ (p - 1) % p = a * 1 % p := by
    rw [Nat.mul_one, ← h, ← Nat.pow_succ', show (p - 1).succ = p from by omega]
  rw [mod_mul_cancel hp ha h1, Nat.mod_eq_of_lt (by omega)]

/-! ### Powers modulo n -/
theorem pow_mod_congr {n a : Nat} {x : Nat} (h : a ^ x % n = 1 % n) (q r : Nat) : a ^ (x * q + r) % n = a ^ r % n := by
  rw [Nat.pow_add, Nat.pow_mul, Nat.mul_mod, Nat.pow_mod, h, ← Nat.pow_mod, Nat.one_pow, ← Nat.mul_mod, Nat.one_mul]

theorem pow_gcd {n a : Nat} (x y : Nat) : a ^ x % n = 1 % n → a ^ y % n = 1 % n → a ^ (Nat.gcd x y) % n = 1 % n := by
  induction x, y using Nat.gcd.induction with
  | H0 y => intro _ h; rwa [Nat.gcd_zero_left]
  | H1 x y hx ih =>
    intro h1 h2
    rw [Nat.gcd_rec]
    refine ih ?_ h1
    rw [← pow_mod_congr h1 (y / x) (y % x), Nat.div_add_mod]
    exact h2

/-- A prime of n - 1 that is met divides each prime of n less one. -/
theorem pock_dvd {n q m a : Nat} (hn : n - 1 = q * m) (hn2 : 2 ≤ n) (hq : IsPrime q) (h1 : a ^ (n - 1) % n = 1) (h2 : Nat.gcd (a ^ m % n + n - 1) n = 1) {l : Nat} (hl : IsPrime l) (hln : l ∣ n) : q ∣ l - 1 := by
  have hl2 := hl.two
  have e1 : a ^ (q * m) % l = 1 % l := by
    rw [← hn, ← Nat.mod_mod_of_dvd _ hln, h1]
  have hla : ¬ l ∣ a := by
    intro hd
    have hm : 0 < q * m := by omega
    have : a ^ (q * m) % l = 0 := Nat.mod_eq_zero_of_dvd (Nat.dvd_trans hd ⟨a ^ (q * m - 1), by rw [← Nat.pow_succ', show (q * m - 1).succ = q * m from by omega]⟩)
    rw [this, Nat.mod_eq_of_lt (by omega)] at e1
    omega
  by_cases hd : q ∣ l - 1
  · exact hd
  · exfalso
    have hc := hq.coprime hd
    have e2 : a ^ (l - 1) % l = 1 % l := by rw [fermat1 hl hla, Nat.mod_eq_of_lt (by omega)]
    have e3 := pow_gcd _ _ e1 e2
    rw [Nat.Coprime.gcd_mul_left_cancel m hc] at e3
    obtain ⟨c, hcm⟩ := Nat.gcd_dvd_left m (l - 1)
    have e4 : a ^ m % l = 1 % l := by
      have := pow_mod_congr e3 c 0
      rwa [Nat.add_zero, ← hcm, Nat.pow_zero] at this
    have e5 : l ∣ a ^ m % n + n - 1 := by
      have h3 : (a ^ m % n) % l = 1 % l := by rw [Nat.mod_mod_of_dvd _ hln]; exact e4
      have hb : (a ^ m % n + n) % l = 1 % l := by
        rw [Nat.add_mod, h3, Nat.mod_eq_zero_of_dvd hln, Nat.add_zero, Nat.mod_mod]
      exact (dvd_sub_iff (by omega)).2 hb.symm
    have := Nat.dvd_gcd e5 hln
    rw [h2] at this
    have := Nat.le_of_dvd (by decide) this
    omega

/-- a to the power e modulo n, so many bits at the most. -/
def pm (n : Nat) : Nat → Nat → Nat → Nat
  | 0, _, _ => 1 % n
  | f + 1, a, e => if e % 2 = 1 then a * pm n f (a * a % n) (e / 2) % n else pm n f (a * a % n) (e / 2)

theorem pm_eq (n : Nat) : ∀ (f a e : Nat), e < 2 ^ f → pm n f a e = a ^ e % n
  | 0, a, e, h => by
    rw [Nat.pow_zero] at h
    have : e = 0 := by omega
    subst this
    rfl
  | f + 1, a, e, h => by
    have h2 : e / 2 < 2 ^ f := by rw [Nat.pow_succ] at h; omega
    have ih := pm_eq n f (a * a % n) (e / 2) h2
    have e1 : (a * a % n) ^ (e / 2) % n = a ^ (2 * (e / 2)) % n := by
      rw [← Nat.pow_mod, Nat.pow_mul, Nat.pow_two]
    have e2 : e = 2 * (e / 2) + e % 2 := by omega
    show (if e % 2 = 1 then a * pm n f (a * a % n) (e / 2) % n else pm n f (a * a % n) (e / 2)) = _
    rw [ih, e1]
    by_cases hb : e % 2 = 1
    · rw [if_pos hb, Nat.mul_mod_mod]
      conv => rhs; rw [e2, hb, Nat.pow_succ, Nat.mul_comm]
    · rw [if_neg hb]
      conv => rhs; rw [e2, show e % 2 = 0 from by omega, Nat.add_zero]

/-- One prime of n - 1 with its witness. -/
structure Wit (n q a : Nat) : Prop where
  prime : IsPrime q
  dvd : (n - 1) % q = 0
  full : pm n 400 a (n - 1) = 1
  part : Nat.gcd (pm n 400 a ((n - 1) / q) + n - 1) n = 1

theorem Wit.out {n q a : Nat} (h : Wit n q a) (hn : 2 ≤ n) (hb : n < 2 ^ 200 * 2 ^ 200) {l : Nat} (hl : IsPrime l) (hln : l ∣ n) : q ∣ l - 1 := by
  have e : n - 1 = q * ((n - 1) / q) := (Nat.mul_div_cancel' (Nat.dvd_of_mod_eq_zero h.dvd)).symm
  have h1 := h.full
  have h2 := h.part
  rw [← Nat.pow_add] at hb
  have hb1 := Nat.lt_of_le_of_lt (Nat.sub_le n 1) hb
  have hk : ∀ k, k = 200 + 200 → n - 1 < 2 ^ k := by rintro _ rfl; exact hb1
  rw [pm_eq _ 400 _ _ (hk 400 rfl)] at h1
  rw [pm_eq _ 400 _ _ (Nat.lt_of_le_of_lt (Nat.div_le_self _ _) (hk 400 rfl))] at h2
  exact pock_dvd e hn h.prime h1 h2 hl hln

/-- The test: the product f of primes that are met is at least the root of n. -/
theorem prime_of {n f : Nat} (hn : 2 ≤ n) (hf : n < (f + 1) * (f + 1)) (h : ∀ l, IsPrime l → l ∣ n → f ∣ l - 1) : IsPrime n := by
  obtain ⟨l, hl, hln, hmin⟩ := least_factor n hn
  obtain ⟨c, hc⟩ := hln
  have hl2 := hl.two
  have hlf : f + 1 ≤ l := by
    have := Nat.le_of_dvd (by omega) (h l hl ⟨c, hc⟩)
    omega
  have hc1 : c = 1 := by
    have hc0 : c ≠ 0 := by rintro rfl; omega
    rcases Nat.lt_or_ge c 2 with h2 | h2
    · omega
    · have := hmin c h2 ⟨l, by rw [hc, Nat.mul_comm]⟩
      have h3 : (f + 1) * (f + 1) ≤ l * c := Nat.mul_le_mul hlf (by omega)
      omega
  rw [hc, hc1, Nat.mul_one]
  exact hl

theorem all_dvd {n f : Nat} (h : ∀ l, IsPrime l → l ∣ n → f ∣ l - 1) (d : Nat) : 1 ≤ d → d ∣ n → f ∣ d - 1 := by
  induction d using Nat.strongRecOn with
  | ind d ih =>
    intro h1 hd
    by_cases e : d = 1
    · subst e; exact ⟨0, rfl⟩
    · obtain ⟨l, hl, ⟨c, hc⟩, -⟩ := least_factor d (by omega)
      have hl2 := hl.two
      have hc0 : 1 ≤ c := by
        rcases Nat.eq_zero_or_pos c with h0 | h0
        · rw [h0, Nat.mul_zero] at hc; omega
        · exact h0
      have hlt : c < d := by
        have : 2 * c ≤ l * c := Nat.mul_le_mul_right c hl2
        omega
      obtain ⟨x, hx⟩ := ih c hlt hc0 (Nat.dvd_trans ⟨l, by rw [hc, Nat.mul_comm]⟩ hd)
      obtain ⟨y, hy⟩ := h l hl (Nat.dvd_trans ⟨c, hc⟩ hd)
      refine ⟨y * c + x, ?_⟩
      have e2 : l = f * y + 1 := by omega
      rw [hc, e2, Nat.add_mul, Nat.one_mul, Nat.mul_add, ← Nat.mul_assoc, ← hx]
      omega

/-- The test where the product is but the third root of n. -/
theorem prime_of3 {n f a b : Nat} (hn : 2 ≤ n) (hf : n < f * f * f) (h : ∀ l, IsPrime l → l ∣ n → f ∣ l - 1) (he : n = (b * f + a) * f + 1) (ha : a < f)
    (hs : ∃ s, s * s < a * a - 4 * b ∧ a * a - 4 * b < (s + 1) * (s + 1)) : IsPrime n := by
  obtain ⟨l, hl, hln, hmin⟩ := least_factor n hn
  obtain ⟨c, hc⟩ := id hln
  have hl2 := hl.two
  by_cases hc1 : c = 1
  · rw [hc, hc1, Nat.mul_one]
    exact hl
  · exfalso
    have hc0 : c ≠ 0 := by rintro rfl; omega
    obtain ⟨u, hu⟩ := h l hl hln
    obtain ⟨v, hv⟩ := all_dvd h c (by omega) ⟨l, by rw [hc, Nat.mul_comm]⟩
    have hu0 : u ≠ 0 := by rintro rfl; rw [Nat.mul_zero] at hu; omega
    have hv0 : v ≠ 0 := by rintro rfl; rw [Nat.mul_zero] at hv; omega
    have hf0 : 0 < f := by omega
    have e1 : l = f * u + 1 := by omega
    have e2 : c = f * v + 1 := by omega
    have e3 : n = (u * v * f + (u + v)) * f + 1 := by
      rw [hc, e1, e2]; grind
    have e4 : b * f + a = u * v * f + (u + v) := Nat.eq_of_mul_eq_mul_right hf0 (by omega)
    have huv : u * v < f := by
      refine Nat.lt_of_mul_lt_mul_right (a := f * f) ?_
      have h1 : u * v * (f * f) ≤ n := by rw [e3, Nat.add_mul, Nat.mul_assoc (u * v)]; omega
      rw [← Nat.mul_assoc f]
      omega
    have hle : u + v ≤ u * v + 1 := by
      obtain ⟨x, rfl⟩ : ∃ x, u = x + 1 := ⟨u - 1, by omega⟩
      obtain ⟨y, rfl⟩ : ∃ y, v = y + 1 := ⟨v - 1, by omega⟩
      rw [Nat.add_mul, Nat.mul_add]; omega
    have hlt : u + v < f := by
      rcases Nat.lt_or_ge (u + v) f with h1 | h1
      · exact h1
      · exfalso
        have h3 : u + v = f := by omega
        have h4 : u * v = f - 1 := by omega
        rw [h3, h4] at e3
        have h5 : (f - 1) * f + f = f * f := by rw [Nat.sub_mul]; have : 1 * f ≤ f * f := Nat.mul_le_mul_right f hf0; omega
        rw [h5] at e3
        omega
    have e5 : a = u + v := by
      have := congrArg (· % f) e4
      simpa [Nat.add_mod, Nat.mod_eq_of_lt ha, Nat.mod_eq_of_lt hlt] using this
    have e6 : b = u * v := by
      subst e5
      exact Nat.eq_of_mul_eq_mul_right hf0 (by omega)
    obtain ⟨s, hs1, hs2⟩ := hs
    have key : ∀ x y : Nat, x ≤ y → (x + y) * (x + y) - 4 * (x * y) = (y - x) * (y - x) := by
      intro x y hxy
      obtain ⟨z, rfl⟩ : ∃ z, y = x + z := ⟨y - x, by omega⟩
      rw [Nat.add_sub_cancel_left]
      have : (x + (x + z)) * (x + (x + z)) = 4 * (x * (x + z)) + z * z := by grind
      omega
    have : ∃ t, a * a - 4 * b = t * t := by
      rw [e5, e6]
      rcases Nat.le_total u v with h1 | h1
      · exact ⟨_, key u v h1⟩
      · exact ⟨_, by rw [Nat.add_comm, Nat.mul_comm u v]; exact key v u h1⟩
    obtain ⟨t, ht⟩ := this
    rw [ht] at hs1 hs2
    rcases Nat.lt_or_ge s t with h1 | h1
    · have : (s + 1) * (s + 1) ≤ t * t := Nat.mul_le_mul h1 h1
      omega
    · have : t * t ≤ s * s := Nat.mul_le_mul h1 h1
      omega

theorem dvd_two {f q l : Nat} (hc : Nat.gcd f q = 1) (h1 : f ∣ l - 1) (h2 : q ∣ l - 1) : f * q ∣ l - 1 := Nat.Coprime.mul_dvd_of_dvd_of_dvd hc h1 h2

/-- Trial division. -/
def noDiv (n : Nat) : Nat → Bool
  | 0 => true
  | k + 1 => (k < 2 || n % k != 0) && noDiv n k

theorem noDiv_out {n : Nat} : ∀ {k : Nat}, noDiv n k = true → ∀ d, 2 ≤ d → d < k → ¬ d ∣ n
  | 0, _, d, _, h => by omega
  | k + 1, h, d, h2, hd => by
    simp only [noDiv, Bool.and_eq_true, Bool.or_eq_true, decide_eq_true_eq, bne_iff_ne] at h
    by_cases e : d = k
    · subst e
      rcases h.1 with h3 | h3
      · omega
      · exact fun hd => h3 (Nat.mod_eq_zero_of_dvd hd)
    · exact noDiv_out h.2 d h2 (by omega)

theorem prime_small {n : Nat} (k : Nat) (hn : 2 ≤ n) (hk : n < k * k) (h : noDiv n k = true) : IsPrime n := by
  obtain ⟨l, hl, ⟨c, hc⟩, hmin⟩ := least_factor n hn
  have hlk : k ≤ l := by
    rcases Nat.lt_or_ge l k with h1 | h1
    · exact absurd ⟨c, hc⟩ (noDiv_out h l hl.two h1)
    · exact h1
  have hc1 : c = 1 := by
    have hc0 : c ≠ 0 := by rintro rfl; omega
    rcases Nat.lt_or_ge c 2 with h2 | h2
    · omega
    · have := hmin c h2 ⟨l, by rw [hc, Nat.mul_comm]⟩
      have h3 : k * k ≤ l * c := Nat.mul_le_mul hlk (by omega)
      omega
  rw [hc, hc1, Nat.mul_one]
  exact hl
end Go.Proofs.YtjokcbjahidckaaGreat
/-! The primes of the curves, each with its certificate. No condition. -/
namespace Go.Proofs.YtjokcbjahidckaaGreat
set_option maxRecDepth 100000
theorem prime_53 : IsPrime 53 := prime_small 8 (by decide) (by decide) (by decide)
theorem prime_29 : IsPrime 29 := prime_small 6 (by decide) (by decide) (by decide)
theorem prime_7 : IsPrime 7 := prime_small 3 (by decide) (by decide) (by decide)
theorem prime_107590001 : IsPrime 107590001 := by
  refine prime_of (f := 10759) (by decide) (by decide) fun l hl hln => ?_
  have h0 := (Wit.mk (n := 107590001) (q := 53) (a := 2) prime_53 (by decide) (by decide) (by decide)).out (by decide) (by decide) hl hln
  have h1 := (Wit.mk (n := 107590001) (q := 29) (a := 2) prime_29 (by decide) (by decide) (by decide)).out (by decide) (by decide) hl hln
  have h2 := (Wit.mk (n := 107590001) (q := 7) (a := 2) prime_7 (by decide) (by decide) (by decide)).out (by decide) (by decide) hl hln
  exact (dvd_two (f := 1537) (q := 7) (by decide) (dvd_two (f := 53) (q := 29) (by decide) h0 h1) h2)
theorem prime_20113 : IsPrime 20113 := prime_small 142 (by decide) (by decide) (by decide)
theorem prime_1206781 : IsPrime 1206781 := by
  refine prime_of (f := 20113) (by decide) (by decide) fun l hl hln => ?_
  have h0 := (Wit.mk (n := 1206781) (q := 20113) (a := 2) prime_20113 (by decide) (by decide) (by decide)).out (by decide) (by decide) hl hln
  exact h0
theorem prime_7240687 : IsPrime 7240687 := by
  refine prime_of (f := 1206781) (by decide) (by decide) fun l hl hln => ?_
  have h0 := (Wit.mk (n := 7240687) (q := 1206781) (a := 2) prime_1206781 (by decide) (by decide) (by decide)).out (by decide) (by decide) hl hln
  exact h0
theorem prime_96557 : IsPrime 96557 := prime_small 311 (by decide) (by decide) (by decide)
theorem prime_255515944373312847190720520512484175977 : IsPrime 255515944373312847190720520512484175977 := by
  refine prime_of (f := 75220367286300824659) (by decide) (by decide) fun l hl hln => ?_
  have h0 := (Wit.mk (n := 255515944373312847190720520512484175977) (q := 107590001) (a := 2) prime_107590001 (by decide) (by decide) (by decide)).out (by decide) (by decide) hl hln
  have h1 := (Wit.mk (n := 255515944373312847190720520512484175977) (q := 7240687) (a := 2) prime_7240687 (by decide) (by decide) (by decide)).out (by decide) (by decide) hl hln
  have h2 := (Wit.mk (n := 255515944373312847190720520512484175977) (q := 96557) (a := 2) prime_96557 (by decide) (by decide) (by decide)).out (by decide) (by decide) hl hln
  exact (dvd_two (f := 779025521570687) (q := 96557) (by decide) (dvd_two (f := 107590001) (q := 7240687) (by decide) h0 h1) h2)
theorem prime_205115282021455665897114700593932402728804164701536103180137503955397371 : IsPrime 205115282021455665897114700593932402728804164701536103180137503955397371 := by
  refine prime_of (f := 255515944373312847190720520512484175977) (by decide) (by decide) fun l hl hln => ?_
  have h0 := (Wit.mk (n := 205115282021455665897114700593932402728804164701536103180137503955397371) (q := 255515944373312847190720520512484175977) (a := 2) prime_255515944373312847190720520512484175977 (by decide) (by decide) (by decide)).out (by decide) (by decide) hl hln
  exact h0
theorem prime_secp_p : IsPrime 115792089237316195423570985008687907853269984665640564039457584007908834671663 := by
  refine prime_of (f := 205115282021455665897114700593932402728804164701536103180137503955397371) (by decide) (by decide) fun l hl hln => ?_
  have h0 := (Wit.mk (n := 115792089237316195423570985008687907853269984665640564039457584007908834671663) (q := 205115282021455665897114700593932402728804164701536103180137503955397371) (a := 2) prime_205115282021455665897114700593932402728804164701536103180137503955397371 (by decide) (by decide) (by decide)).out (by decide) (by decide) hl hln
  exact h0
theorem prime_3557 : IsPrime 3557 := prime_small 60 (by decide) (by decide) (by decide)
theorem prime_911 : IsPrime 911 := prime_small 31 (by decide) (by decide) (by decide)
theorem prime_1263766531 : IsPrime 1263766531 := by
  refine prime_of (f := 3240427) (by decide) (by decide) fun l hl hln => ?_
  have h0 := (Wit.mk (n := 1263766531) (q := 3557) (a := 2) prime_3557 (by decide) (by decide) (by decide)).out (by decide) (by decide) hl hln
  have h1 := (Wit.mk (n := 1263766531) (q := 911) (a := 2) prime_911 (by decide) (by decide) (by decide)).out (by decide) (by decide) hl hln
  exact (dvd_two (f := 3557) (q := 911) (by decide) h0 h1)
theorem prime_35385462869 : IsPrime 35385462869 := by
  refine prime_of (f := 1263766531) (by decide) (by decide) fun l hl hln => ?_
  have h0 := (Wit.mk (n := 35385462869) (q := 1263766531) (a := 2) prime_1263766531 (by decide) (by decide) (by decide)).out (by decide) (by decide) hl hln
  exact h0
theorem prime_2480874801745591 : IsPrime 2480874801745591 := by
  refine prime_of (f := 35385462869) (by decide) (by decide) fun l hl hln => ?_
  have h0 := (Wit.mk (n := 2480874801745591) (q := 35385462869) (a := 2) prime_35385462869 (by decide) (by decide) (by decide)).out (by decide) (by decide) hl hln
  exact h0
theorem prime_13327 : IsPrime 13327 := prime_small 116 (by decide) (by decide) (by decide)
theorem prime_173171039 : IsPrime 173171039 := by
  refine prime_of (f := 13327) (by decide) (by decide) fun l hl hln => ?_
  have h0 := (Wit.mk (n := 173171039) (q := 13327) (a := 2) prime_13327 (by decide) (by decide) (by decide)).out (by decide) (by decide) hl hln
  exact h0
theorem prime_13427688667394608761327070753331941386769 : IsPrime 13427688667394608761327070753331941386769 := by
  refine prime_of (f := 429615667047203007139049) (by decide) (by decide) fun l hl hln => ?_
  have h0 := (Wit.mk (n := 13427688667394608761327070753331941386769) (q := 2480874801745591) (a := 2) prime_2480874801745591 (by decide) (by decide) (by decide)).out (by decide) (by decide) hl hln
  have h1 := (Wit.mk (n := 13427688667394608761327070753331941386769) (q := 173171039) (a := 2) prime_173171039 (by decide) (by decide) (by decide)).out (by decide) (by decide) hl hln
  exact (dvd_two (f := 2480874801745591) (q := 173171039) (by decide) h0 h1)
theorem prime_bn_p : IsPrime 21888242871839275222246405745257275088696311157297823662689037894645226208583 := by
  refine prime_of (f := 13427688667394608761327070753331941386769) (by decide) (by decide) fun l hl hln => ?_
  have h0 := (Wit.mk (n := 21888242871839275222246405745257275088696311157297823662689037894645226208583) (q := 13427688667394608761327070753331941386769) (a := 2) prime_13427688667394608761327070753331941386769 (by decide) (by decide) (by decide)).out (by decide) (by decide) hl hln
  exact h0
theorem prime_4349 : IsPrime 4349 := prime_small 66 (by decide) (by decide) (by decide)
theorem prime_582767 : IsPrime 582767 := by
  refine prime_of (f := 4349) (by decide) (by decide) fun l hl hln => ?_
  have h0 := (Wit.mk (n := 582767) (q := 4349) (a := 2) prime_4349 (by decide) (by decide) (by decide)).out (by decide) (by decide) hl hln
  exact h0
theorem prime_7577 : IsPrime 7577 := prime_small 88 (by decide) (by decide) (by decide)
theorem prime_9272813673901 : IsPrime 9272813673901 := by
  refine prime_of (f := 4415625559) (by decide) (by decide) fun l hl hln => ?_
  have h0 := (Wit.mk (n := 9272813673901) (q := 582767) (a := 2) prime_582767 (by decide) (by decide) (by decide)).out (by decide) (by decide) hl hln
  have h1 := (Wit.mk (n := 9272813673901) (q := 7577) (a := 2) prime_7577 (by decide) (by decide) (by decide)).out (by decide) (by decide) hl hln
  exact (dvd_two (f := 582767) (q := 7577) (by decide) h0 h1)
theorem prime_1928745244171409 : IsPrime 1928745244171409 := by
  refine prime_of (f := 9272813673901) (by decide) (by decide) fun l hl hln => ?_
  have h0 := (Wit.mk (n := 1928745244171409) (q := 9272813673901) (a := 2) prime_9272813673901 (by decide) (by decide) (by decide)).out (by decide) (by decide) hl hln
  exact h0
theorem prime_7259797099061183477 : IsPrime 7259797099061183477 := by
  refine prime_of (f := 1928745244171409) (by decide) (by decide) fun l hl hln => ?_
  have h0 := (Wit.mk (n := 7259797099061183477) (q := 1928745244171409) (a := 2) prime_1928745244171409 (by decide) (by decide) (by decide)).out (by decide) (by decide) hl hln
  exact h0
theorem prime_2584487767265781317813 : IsPrime 2584487767265781317813 := by
  refine prime_of (f := 7259797099061183477) (by decide) (by decide) fun l hl hln => ?_
  have h0 := (Wit.mk (n := 2584487767265781317813) (q := 7259797099061183477) (a := 2) prime_7259797099061183477 (by decide) (by decide) (by decide)).out (by decide) (by decide) hl hln
  exact h0
theorem prime_449 : IsPrime 449 := prime_small 22 (by decide) (by decide) (by decide)
theorem prime_97 : IsPrime 97 := prime_small 10 (by decide) (by decide) (by decide)
theorem prime_609743 : IsPrime 609743 := by
  refine prime_of (f := 43553) (by decide) (by decide) fun l hl hln => ?_
  have h0 := (Wit.mk (n := 609743) (q := 449) (a := 2) prime_449 (by decide) (by decide) (by decide)).out (by decide) (by decide) hl hln
  have h1 := (Wit.mk (n := 609743) (q := 97) (a := 2) prime_97 (by decide) (by decide) (by decide)).out (by decide) (by decide) hl hln
  exact (dvd_two (f := 449) (q := 97) (by decide) h0 h1)
theorem prime_52437899 : IsPrime 52437899 := by
  refine prime_of (f := 609743) (by decide) (by decide) fun l hl hln => ?_
  have h0 := (Wit.mk (n := 52437899) (q := 609743) (a := 2) prime_609743 (by decide) (by decide) (by decide)).out (by decide) (by decide) hl hln
  exact h0
theorem prime_47737 : IsPrime 47737 := prime_small 219 (by decide) (by decide) (by decide)
theorem prime_859267 : IsPrime 859267 := by
  refine prime_of (f := 47737) (by decide) (by decide) fun l hl hln => ?_
  have h0 := (Wit.mk (n := 859267) (q := 47737) (a := 2) prime_47737 (by decide) (by decide) (by decide)).out (by decide) (by decide) hl hln
  exact h0
theorem prime_10177 : IsPrime 10177 := prime_small 101 (by decide) (by decide) (by decide)
theorem prime_47 : IsPrime 47 := prime_small 7 (by decide) (by decide) (by decide)
theorem prime_23 : IsPrime 23 := prime_small 5 (by decide) (by decide) (by decide)
theorem prime_11 : IsPrime 11 := prime_small 4 (by decide) (by decide) (by decide)
theorem prime_3 : IsPrime 3 := prime_small 2 (by decide) (by decide) (by decide)
theorem prime_2 : IsPrime 2 := prime_small 2 (by decide) (by decide) (by decide)
theorem prime_bls_p : IsPrime 4002409555221667393417789825735904156556882819939007885332058136124031650490837864442687629129015664037894272559787 := by
  refine prime_of3 (f := 84554611956245198110134974545511361522366618) (a := 38580554019734540270674599398072549052841407) (b := 559818086062055650296921865) (by decide) (by decide) (fun l hl hln => ?_) (by decide) (by decide) ⟨38580554019734540270674599398072549052841406, by decide, by decide⟩
  have h0 := (Wit.mk (n := 4002409555221667393417789825735904156556882819939007885332058136124031650490837864442687629129015664037894272559787) (q := 2584487767265781317813) (a := 2) prime_2584487767265781317813 (by decide) (by decide) (by decide)).out (by decide) (by decide) hl hln
  have h1 := (Wit.mk (n := 4002409555221667393417789825735904156556882819939007885332058136124031650490837864442687629129015664037894272559787) (q := 52437899) (a := 2) prime_52437899 (by decide) (by decide) (by decide)).out (by decide) (by decide) hl hln
  have h2 := (Wit.mk (n := 4002409555221667393417789825735904156556882819939007885332058136124031650490837864442687629129015664037894272559787) (q := 859267) (a := 2) prime_859267 (by decide) (by decide) (by decide)).out (by decide) (by decide) hl hln
  have h3 := (Wit.mk (n := 4002409555221667393417789825735904156556882819939007885332058136124031650490837864442687629129015664037894272559787) (q := 10177) (a := 2) prime_10177 (by decide) (by decide) (by decide)).out (by decide) (by decide) hl hln
  have h4 := (Wit.mk (n := 4002409555221667393417789825735904156556882819939007885332058136124031650490837864442687629129015664037894272559787) (q := 47) (a := 2) prime_47 (by decide) (by decide) (by decide)).out (by decide) (by decide) hl hln
  have h5 := (Wit.mk (n := 4002409555221667393417789825735904156556882819939007885332058136124031650490837864442687629129015664037894272559787) (q := 23) (a := 2) prime_23 (by decide) (by decide) (by decide)).out (by decide) (by decide) hl hln
  have h6 := (Wit.mk (n := 4002409555221667393417789825735904156556882819939007885332058136124031650490837864442687629129015664037894272559787) (q := 11) (a := 2) prime_11 (by decide) (by decide) (by decide)).out (by decide) (by decide) hl hln
  have h7 := (Wit.mk (n := 4002409555221667393417789825735904156556882819939007885332058136124031650490837864442687629129015664037894272559787) (q := 3) (a := 2) prime_3 (by decide) (by decide) (by decide)).out (by decide) (by decide) hl hln
  have h8 := (Wit.mk (n := 4002409555221667393417789825735904156556882819939007885332058136124031650490837864442687629129015664037894272559787) (q := 2) (a := 2) prime_2 (by decide) (by decide) (by decide)).out (by decide) (by decide) hl hln
  exact (dvd_two (f := 42277305978122599055067487272755680761183309) (q := 2) (by decide) (dvd_two (f := 14092435326040866351689162424251893587061103) (q := 3) (by decide) (dvd_two (f := 1281130484185533304699014765841081235187373) (q := 11) (by decide) (dvd_two (f := 55701325399371013247783250688742662399451) (q := 23) (by decide) (dvd_two (f := 1185134582965340707399643631675375795733) (q := 47) (by decide) (dvd_two (f := 116452253411156598938748514461567829) (q := 10177) (by decide) (dvd_two (f := 135525108506618546899564994887) (q := 859267) (by decide) (dvd_two (f := 2584487767265781317813) (q := 52437899) (by decide) h0 h1) h2) h3) h4) h5) h6) h7) h8)
theorem prime_1871 : IsPrime 1871 := prime_small 44 (by decide) (by decide) (by decide)
theorem prime_1627771 : IsPrime 1627771 := by
  refine prime_of (f := 1871) (by decide) (by decide) fun l hl hln => ?_
  have h0 := (Wit.mk (n := 1627771) (q := 1871) (a := 2) prime_1871 (by decide) (by decide) (by decide)).out (by decide) (by decide) hl hln
  exact h0
theorem prime_297159362677 : IsPrime 297159362677 := by
  refine prime_of (f := 1627771) (by decide) (by decide) fun l hl hln => ?_
  have h0 := (Wit.mk (n := 297159362677) (q := 1627771) (a := 2) prime_1627771 (by decide) (by decide) (by decide)).out (by decide) (by decide) hl hln
  exact h0
theorem prime_28181 : IsPrime 28181 := prime_small 168 (by decide) (by decide) (by decide)
theorem prime_545358713 : IsPrime 545358713 := by
  refine prime_of (f := 28181) (by decide) (by decide) fun l hl hln => ?_
  have h0 := (Wit.mk (n := 545358713) (q := 28181) (a := 2) prime_28181 (by decide) (by decide) (by decide)).out (by decide) (by decide) hl hln
  exact h0
theorem prime_29047611873442575647497758179 : IsPrime 29047611873442575647497758179 := by
  refine prime_of (f := 162058447585428954701) (by decide) (by decide) fun l hl hln => ?_
  have h0 := (Wit.mk (n := 29047611873442575647497758179) (q := 297159362677) (a := 2) prime_297159362677 (by decide) (by decide) (by decide)).out (by decide) (by decide) hl hln
  have h1 := (Wit.mk (n := 29047611873442575647497758179) (q := 545358713) (a := 2) prime_545358713 (by decide) (by decide) (by decide)).out (by decide) (by decide) hl hln
  exact (dvd_two (f := 297159362677) (q := 545358713) (by decide) h0 h1)
theorem prime_341948486974166000522343609283189 : IsPrime 341948486974166000522343609283189 := by
  refine prime_of (f := 29047611873442575647497758179) (by decide) (by decide) fun l hl hln => ?_
  have h0 := (Wit.mk (n := 341948486974166000522343609283189) (q := 29047611873442575647497758179) (a := 2) prime_29047611873442575647497758179 (by decide) (by decide) (by decide)).out (by decide) (by decide) hl hln
  exact h0
theorem prime_9349 : IsPrime 9349 := prime_small 97 (by decide) (by decide) (by decide)
theorem prime_44706919 : IsPrime 44706919 := by
  refine prime_of (f := 9349) (by decide) (by decide) fun l hl hln => ?_
  have h0 := (Wit.mk (n := 44706919) (q := 9349) (a := 2) prime_9349 (by decide) (by decide) (by decide)).out (by decide) (by decide) hl hln
  exact h0
theorem prime_120233 : IsPrime 120233 := prime_small 347 (by decide) (by decide) (by decide)
theorem prime_174723607534414371449 : IsPrime 174723607534414371449 := by
  refine prime_of (f := 5375246992127) (by decide) (by decide) fun l hl hln => ?_
  have h0 := (Wit.mk (n := 174723607534414371449) (q := 44706919) (a := 2) prime_44706919 (by decide) (by decide) (by decide)).out (by decide) (by decide) hl hln
  have h1 := (Wit.mk (n := 174723607534414371449) (q := 120233) (a := 2) prime_120233 (by decide) (by decide) (by decide)).out (by decide) (by decide) hl hln
  exact (dvd_two (f := 44706919) (q := 120233) (by decide) h0 h1)
theorem prime_secp_n : IsPrime 115792089237316195423570985008687907852837564279074904382605163141518161494337 := by
  refine prime_of (f := 59746473235060985162263246577491932178200490877270861) (by decide) (by decide) fun l hl hln => ?_
  have h0 := (Wit.mk (n := 115792089237316195423570985008687907852837564279074904382605163141518161494337) (q := 341948486974166000522343609283189) (a := 2) prime_341948486974166000522343609283189 (by decide) (by decide) (by decide)).out (by decide) (by decide) hl hln
  have h1 := (Wit.mk (n := 115792089237316195423570985008687907852837564279074904382605163141518161494337) (q := 174723607534414371449) (a := 2) prime_174723607534414371449 (by decide) (by decide) (by decide)).out (by decide) (by decide) hl hln
  exact (dvd_two (f := 341948486974166000522343609283189) (q := 174723607534414371449) (by decide) h0 h1)
theorem prime_1637 : IsPrime 1637 := prime_small 41 (by decide) (by decide) (by decide)
theorem prime_853 : IsPrime 853 := prime_small 30 (by decide) (by decide) (by decide)
theorem prime_639533339 : IsPrime 639533339 := by
  refine prime_of (f := 1396361) (by decide) (by decide) fun l hl hln => ?_
  have h0 := (Wit.mk (n := 639533339) (q := 1637) (a := 2) prime_1637 (by decide) (by decide) (by decide)).out (by decide) (by decide) hl hln
  have h1 := (Wit.mk (n := 639533339) (q := 853) (a := 2) prime_853 (by decide) (by decide) (by decide)).out (by decide) (by decide) hl hln
  exact (dvd_two (f := 1637) (q := 853) (by decide) h0 h1)
theorem prime_65865678001877903 : IsPrime 65865678001877903 := by
  refine prime_of (f := 639533339) (by decide) (by decide) fun l hl hln => ?_
  have h0 := (Wit.mk (n := 65865678001877903) (q := 639533339) (a := 2) prime_639533339 (by decide) (by decide) (by decide)).out (by decide) (by decide) hl hln
  exact h0
theorem prime_13818364434197438864469338081 : IsPrime 13818364434197438864469338081 := by
  refine prime_of (f := 65865678001877903) (by decide) (by decide) fun l hl hln => ?_
  have h0 := (Wit.mk (n := 13818364434197438864469338081) (q := 65865678001877903) (a := 2) prime_65865678001877903 (by decide) (by decide) (by decide)).out (by decide) (by decide) hl hln
  exact h0
theorem prime_93001 : IsPrime 93001 := prime_small 305 (by decide) (by decide) (by decide)
theorem prime_661 : IsPrime 661 := prime_small 26 (by decide) (by decide) (by decide)
theorem prime_12048837557 : IsPrime 12048837557 := by
  refine prime_of (f := 61473661) (by decide) (by decide) fun l hl hln => ?_
  have h0 := (Wit.mk (n := 12048837557) (q := 93001) (a := 2) prime_93001 (by decide) (by decide) (by decide)).out (by decide) (by decide) hl hln
  have h1 := (Wit.mk (n := 12048837557) (q := 661) (a := 2) prime_661 (by decide) (by decide) (by decide)).out (by decide) (by decide) hl hln
  exact (dvd_two (f := 93001) (q := 661) (by decide) h0 h1)
theorem prime_5156902474397 : IsPrime 5156902474397 := by
  refine prime_of (f := 12048837557) (by decide) (by decide) fun l hl hln => ?_
  have h0 := (Wit.mk (n := 5156902474397) (q := 12048837557) (a := 2) prime_12048837557 (by decide) (by decide) (by decide)).out (by decide) (by decide) hl hln
  exact h0
theorem prime_1670836401704629 : IsPrime 1670836401704629 := by
  refine prime_of (f := 5156902474397) (by decide) (by decide) fun l hl hln => ?_
  have h0 := (Wit.mk (n := 1670836401704629) (q := 5156902474397) (a := 2) prime_5156902474397 (by decide) (by decide) (by decide)).out (by decide) (by decide) hl hln
  exact h0
theorem prime_bn_r : IsPrime 21888242871839275222246405745257275088548364400416034343698204186575808495617 := by
  refine prime_of (f := 23088226308677670388631582763742451703676949) (by decide) (by decide) fun l hl hln => ?_
  have h0 := (Wit.mk (n := 21888242871839275222246405745257275088548364400416034343698204186575808495617) (q := 13818364434197438864469338081) (a := 2) prime_13818364434197438864469338081 (by decide) (by decide) (by decide)).out (by decide) (by decide) hl hln
  have h1 := (Wit.mk (n := 21888242871839275222246405745257275088548364400416034343698204186575808495617) (q := 1670836401704629) (a := 2) prime_1670836401704629 (by decide) (by decide) (by decide)).out (by decide) (by decide) hl hln
  exact (dvd_two (f := 13818364434197438864469338081) (q := 1670836401704629) (by decide) h0 h1)
theorem prime_110573 : IsPrime 110573 := prime_small 333 (by decide) (by decide) (by decide)
theorem prime_2653753 : IsPrime 2653753 := by
  refine prime_of (f := 110573) (by decide) (by decide) fun l hl hln => ?_
  have h0 := (Wit.mk (n := 2653753) (q := 110573) (a := 2) prime_110573 (by decide) (by decide) (by decide)).out (by decide) (by decide) hl hln
  exact h0
theorem prime_63690073 : IsPrime 63690073 := by
  refine prime_of (f := 2653753) (by decide) (by decide) fun l hl hln => ?_
  have h0 := (Wit.mk (n := 63690073) (q := 2653753) (a := 2) prime_2653753 (by decide) (by decide) (by decide)).out (by decide) (by decide) hl hln
  exact h0
theorem prime_254760293 : IsPrime 254760293 := by
  refine prime_of (f := 63690073) (by decide) (by decide) fun l hl hln => ?_
  have h0 := (Wit.mk (n := 254760293) (q := 63690073) (a := 2) prime_63690073 (by decide) (by decide) (by decide)).out (by decide) (by decide) hl hln
  exact h0
theorem prime_18329 : IsPrime 18329 := prime_small 136 (by decide) (by decide) (by decide)
theorem prime_2529403 : IsPrime 2529403 := by
  refine prime_of (f := 18329) (by decide) (by decide) fun l hl hln => ?_
  have h0 := (Wit.mk (n := 2529403) (q := 18329) (a := 2) prime_18329 (by decide) (by decide) (by decide)).out (by decide) (by decide) hl hln
  exact h0
theorem prime_79 : IsPrime 79 := prime_small 9 (by decide) (by decide) (by decide)
theorem prime_2508409 : IsPrime 2508409 := by
  refine prime_of (f := 1659) (by decide) (by decide) fun l hl hln => ?_
  have h0 := (Wit.mk (n := 2508409) (q := 79) (a := 2) prime_79 (by decide) (by decide) (by decide)).out (by decide) (by decide) hl hln
  have h1 := (Wit.mk (n := 2508409) (q := 7) (a := 2) prime_7 (by decide) (by decide) (by decide)).out (by decide) (by decide) hl hln
  have h2 := (Wit.mk (n := 2508409) (q := 3) (a := 2) prime_3 (by decide) (by decide) (by decide)).out (by decide) (by decide) hl hln
  exact (dvd_two (f := 553) (q := 3) (by decide) (dvd_two (f := 79) (q := 7) (by decide) h0 h1) h2)
theorem prime_1607 : IsPrime 1607 := prime_small 41 (by decide) (by decide) (by decide)
theorem prime_906349 : IsPrime 906349 := by
  refine prime_of (f := 1607) (by decide) (by decide) fun l hl hln => ?_
  have h0 := (Wit.mk (n := 906349) (q := 1607) (a := 2) prime_1607 (by decide) (by decide) (by decide)).out (by decide) (by decide) hl hln
  exact h0
theorem prime_bls_r : IsPrime 52435875175126190479447740508185965837690552500527637822603658699938581184513 := by
  refine prime_of (f := 66011103839419183912452067693255434822787) (by decide) (by decide) fun l hl hln => ?_
  have h0 := (Wit.mk (n := 52435875175126190479447740508185965837690552500527637822603658699938581184513) (q := 254760293) (a := 2) prime_254760293 (by decide) (by decide) (by decide)).out (by decide) (by decide) hl hln
  have h1 := (Wit.mk (n := 52435875175126190479447740508185965837690552500527637822603658699938581184513) (q := 52437899) (a := 2) prime_52437899 (by decide) (by decide) (by decide)).out (by decide) (by decide) hl hln
  have h2 := (Wit.mk (n := 52435875175126190479447740508185965837690552500527637822603658699938581184513) (q := 2529403) (a := 2) prime_2529403 (by decide) (by decide) (by decide)).out (by decide) (by decide) hl hln
  have h3 := (Wit.mk (n := 52435875175126190479447740508185965837690552500527637822603658699938581184513) (q := 2508409) (a := 2) prime_2508409 (by decide) (by decide) (by decide)).out (by decide) (by decide) hl hln
  have h4 := (Wit.mk (n := 52435875175126190479447740508185965837690552500527637822603658699938581184513) (q := 906349) (a := 2) prime_906349 (by decide) (by decide) (by decide)).out (by decide) (by decide) hl hln
  have h5 := (Wit.mk (n := 52435875175126190479447740508185965837690552500527637822603658699938581184513) (q := 859267) (a := 2) prime_859267 (by decide) (by decide) (by decide)).out (by decide) (by decide) hl hln
  exact (dvd_two (f := 76822575333882464836252372886722561) (q := 859267) (by decide) (dvd_two (f := 84760478947825247047497567589) (q := 906349) (by decide) (dvd_two (f := 33790533739842763699021) (q := 2508409) (by decide) (dvd_two (f := 13359094513544407) (q := 2529403) (by decide) (dvd_two (f := 254760293) (q := 52437899) (by decide) h0 h1) h2) h3) h4) h5)
end Go.Proofs.YtjokcbjahidckaaGreat
/-! Commutative rings, and a check of equations in them by normal forms. No condition. -/
namespace Go.Proofs.YtjokcbjahidckaaGreat

/-- A commutative ring. -/
class Rg (T : Type) extends Add T, Mul T, Neg T, Sub T, Zero T, One T where
  radd_assoc : ∀ a b c : T, a + b + c = a + (b + c)
  radd_comm : ∀ a b : T, a + b = b + a
  rzero_add : ∀ a : T, 0 + a = a
  rneg_add : ∀ a : T, -a + a = 0
  rsub_eq : ∀ a b : T, a - b = a + -b
  rmul_assoc : ∀ a b c : T, a * b * c = a * (b * c)
  rmul_comm : ∀ a b : T, a * b = b * a
  rone_mul : ∀ a : T, 1 * a = a
  radd_mul : ∀ a b c : T, (a + b) * c = a * c + b * c

namespace Rg
variable {T : Type} [Rg T]

theorem add_zero (a : T) : a + 0 = a := by rw [radd_comm, rzero_add]
theorem add_neg (a : T) : a + -a = 0 := by rw [radd_comm, rneg_add]
theorem mul_one (a : T) : a * 1 = a := by rw [rmul_comm, rone_mul]
theorem mul_add (a b c : T) : a * (b + c) = a * b + a * c := by rw [rmul_comm, radd_mul, rmul_comm b, rmul_comm c]
theorem add_left_comm (a b c : T) : a + (b + c) = b + (a + c) := by rw [← radd_assoc, radd_comm a b, radd_assoc]
theorem mul_left_comm (a b c : T) : a * (b * c) = b * (a * c) := by rw [← rmul_assoc, rmul_comm a b, rmul_assoc]
theorem add_left_cancel {a b c : T} (h : a + b = a + c) : b = c := by
  have : -a + (a + b) = -a + (a + c) := by rw [h]
  rwa [← radd_assoc, ← radd_assoc, rneg_add, rzero_add, rzero_add] at this
theorem add_right_cancel {a b c : T} (h : b + a = c + a) : b = c := by rw [radd_comm b, radd_comm c] at h; exact add_left_cancel h
theorem mul_zero (a : T) : a * 0 = 0 := by
  have : a * 0 + a * 0 = a * 0 + 0 := by rw [← mul_add, rzero_add, add_zero]
  exact add_left_cancel this
theorem zero_mul (a : T) : 0 * a = 0 := by rw [rmul_comm, mul_zero]
theorem neg_uniq {a b : T} (h : a + b = 0) : a = -b := add_right_cancel (a := b) (by rw [h, rneg_add])
theorem neg_neg (a : T) : - -a = a := (neg_uniq (add_neg a)).symm
theorem neg_mul (a b : T) : -a * b = -(a * b) := neg_uniq (by rw [← radd_mul, rneg_add, zero_mul])
theorem neg_add (a b : T) : -(a + b) = -a + -b := (neg_uniq (by
  rw [radd_assoc, add_left_comm (-b), rneg_add, add_zero, rneg_add])).symm
theorem sub_self (a : T) : a - a = 0 := by rw [rsub_eq, add_neg]
theorem sub_eq_zero {a b : T} : a - b = 0 ↔ a = b := by
  constructor
  · intro h
    rw [rsub_eq] at h
    rw [neg_uniq h, neg_neg]
  · rintro rfl; exact sub_self a

def ncast : Nat → T
  | 0 => 0
  | n + 1 => ncast n + 1
theorem ncast_add (a : Nat) : ∀ b, (ncast (a + b) : T) = ncast a + ncast b
  | 0 => (add_zero _).symm
  | b + 1 => by show ncast (a + b) + 1 = ncast a + (ncast b + 1); rw [ncast_add a b, radd_assoc]
theorem ncast_mul (a : Nat) : ∀ b, (ncast (a * b) : T) = ncast a * ncast b
  | 0 => (mul_zero _).symm
  | b + 1 => by
    rw [Nat.mul_succ, ncast_add, ncast_mul a b]
    show _ = ncast a * (ncast b + 1)
    rw [mul_add, mul_one]
theorem ncast_one : (ncast 1 : T) = 1 := rzero_add 1

def icast (i : Int) : T := ncast i.toNat - ncast (-i).toNat
theorem sub_eq_sub {a b c d : T} (h : a + d = c + b) : a - b = c - d := by
  rw [rsub_eq, rsub_eq]
  have : a + -b + (b + d) = c + -d + (b + d) := by
    rw [radd_assoc, ← radd_assoc (-b), rneg_add, rzero_add, h, radd_assoc c, add_left_comm (-d), rneg_add, add_zero]
  exact add_right_cancel this
theorem sub_add_sub (a b c d : T) : a - b + (c - d) = a + c - (b + d) := by
  rw [rsub_eq, rsub_eq, rsub_eq, neg_add, radd_assoc, radd_assoc, add_left_comm (-b)]
theorem icast_add (a b : Int) : (icast (a + b) : T) = icast a + icast b := by
  unfold icast
  rw [sub_add_sub, ← ncast_add, ← ncast_add]
  apply sub_eq_sub
  rw [← ncast_add, ← ncast_add]
  congr 1
  omega
theorem icast_nat (n : Nat) : (icast (n : Int) : T) = ncast n := by
  unfold icast
  rw [show (-(n : Int)).toNat = 0 from by omega]
  show _ - (0 : T) = _
  have : (0 : T) + -0 = -0 := rzero_add _
  rw [add_neg] at this
  rw [rsub_eq, ← this, add_zero]
  rfl
theorem icast_neg (a : Int) : (icast (-a) : T) = -icast a := by
  apply neg_uniq
  rw [← icast_add, Int.add_comm, Int.add_right_neg]
  exact sub_self _
theorem icast_mul_nat (a : Int) (n : Nat) : (icast (a * n) : T) = icast a * ncast n := by
  induction n with
  | zero => rw [show a * ((0 : Nat) : Int) = 0 from by simp]; show icast 0 = _ * (0 : T); rw [mul_zero]; exact sub_self _
  | succ n ih =>
    rw [show a * ((n + 1 : Nat) : Int) = a * n + a from by rw [Int.natCast_succ, Int.mul_add, Int.mul_one], icast_add, ih]
    show _ = icast a * (ncast n + 1)
    rw [mul_add, mul_one]
theorem icast_mul (a b : Int) : (icast (a * b) : T) = icast a * icast b := by
  rcases Int.le_total 0 b with h | h
  · obtain ⟨n, rfl⟩ := Int.eq_ofNat_of_zero_le h
    rw [icast_mul_nat, icast_nat]
  · obtain ⟨n, hn⟩ := Int.eq_ofNat_of_zero_le (show 0 ≤ -b by omega)
    have e : b = -(n : Int) := by omega
    rw [e, Int.mul_neg, icast_neg, icast_mul_nat, icast_neg, icast_nat, rmul_comm (icast a) (-ncast n), neg_mul, rmul_comm]

def rpow (x : T) : Nat → T
  | 0 => 1
  | n + 1 => rpow x n * x
theorem rpow_add (x : T) (a : Nat) : ∀ b, rpow x (a + b) = rpow x a * rpow x b
  | 0 => (mul_one _).symm
  | b + 1 => by show rpow x (a + b) * x = rpow x a * (rpow x b * x); rw [rpow_add x a b, rmul_assoc]

/-! ### Normal forms -/
def madd : List Nat → List Nat → List Nat
  | [], b => b
  | a :: az, [] => a :: az
  | a :: az, b :: bs => (a + b) :: madd az bs
def evalM : List T → List Nat → T
  | [], _ => 1
  | _ :: _, [] => 1
  | x :: env, e :: es => rpow x e * evalM env es
theorem evalM_nil (env : List T) : evalM env [] = 1 := by cases env <;> rfl
theorem evalM_madd : ∀ (env : List T) (a b : List Nat), evalM env (madd a b) = evalM env a * evalM env b
  | [], a, b => by show (1 : T) = 1 * 1; rw [rone_mul]
  | x :: env, [], b => by show _ = 1 * _; rw [rone_mul]; rfl
  | x :: env, a :: az, [] => by show _ = _ * 1; rw [mul_one]; rfl
  | x :: env, a :: az, b :: bs => by
    show rpow x (a + b) * evalM env (madd az bs) = rpow x a * evalM env az * (rpow x b * evalM env bs)
    rw [rpow_add, evalM_madd env az bs, rmul_assoc, rmul_assoc, mul_left_comm (rpow x b)]

def mlt : List Nat → List Nat → Bool
  | [], [] => false
  | [], _ :: _ => true
  | _ :: _, [] => false
  | a :: az, b :: bs => if a = b then mlt az bs else a < b

def evalP (env : List T) : List (List Nat × Int) → T
  | [] => 0
  | (m, c) :: p => icast c * evalM env m + evalP env p

def pins (m : List Nat) (c : Int) : List (List Nat × Int) → List (List Nat × Int)
  | [] => [(m, c)]
  | (m', c') :: p => if m = m' then (if c + c' = 0 then p else (m', c + c') :: p) else if mlt m m' then (m, c) :: (m', c') :: p else (m', c') :: pins m c p

theorem icast_zero : (icast 0 : T) = 0 := sub_self _
theorem evalP_pins (env : List T) (m : List Nat) (c : Int) : ∀ p, evalP env (pins m c p) = icast c * evalM env m + evalP env p
  | [] => rfl
  | (m', c') :: p => by
    unfold pins
    by_cases h : m = m'
    · rw [if_pos h]
      have e : icast c * evalM env m + evalP env ((m', c') :: p) = icast (c + c') * evalM env m' + evalP env p := by
        show _ + (icast c' * evalM env m' + evalP env p) = _
        rw [h, ← radd_assoc, ← radd_mul, ← icast_add]
      rw [e]
      by_cases h0 : c + c' = 0
      · rw [if_pos h0, h0, icast_zero, zero_mul, rzero_add]
      · rw [if_neg h0]; rfl
    · rw [if_neg h]
      by_cases hl : mlt m m' = true
      · rw [if_pos hl]; rfl
      · rw [if_neg hl]
        show icast c' * evalM env m' + evalP env (pins m c p) = _ + (icast c' * evalM env m' + evalP env p)
        rw [evalP_pins env m c p, add_left_comm]

def padd : List (List Nat × Int) → List (List Nat × Int) → List (List Nat × Int)
  | [], q => q
  | (m, c) :: p, q => padd p (pins m c q)
theorem evalP_padd (env : List T) : ∀ p q, evalP env (padd p q) = evalP env p + evalP env q
  | [], q => (rzero_add _).symm
  | (m, c) :: p, q => by
    show evalP env (padd p (pins m c q)) = icast c * evalM env m + evalP env p + evalP env q
    rw [evalP_padd env p, evalP_pins, add_left_comm, radd_assoc]
def pmul1 (m : List Nat) (c : Int) : List (List Nat × Int) → List (List Nat × Int) → List (List Nat × Int)
  | [], r => r
  | (m', c') :: q, r => pmul1 m c q (pins (madd m m') (c * c') r)
theorem evalP_pmul1 (env : List T) (m : List Nat) (c : Int) : ∀ q r, evalP env (pmul1 m c q r) = icast c * evalM env m * evalP env q + evalP env r
  | [], r => by show _ = _ * 0 + _; rw [mul_zero, rzero_add]; rfl
  | (m', c') :: q, r => by
    show evalP env (pmul1 m c q (pins (madd m m') (c * c') r)) = _ * (icast c' * evalM env m' + evalP env q) + _
    rw [evalP_pmul1 env m c q, evalP_pins, evalM_madd, icast_mul, mul_add]
    rw [show icast c * icast c' * (evalM env m * evalM env m') = icast c * evalM env m * (icast c' * evalM env m') from by
      rw [rmul_assoc, rmul_assoc, mul_left_comm (icast c')]]
    rw [add_left_comm, radd_assoc]
def pmul : List (List Nat × Int) → List (List Nat × Int) → List (List Nat × Int) → List (List Nat × Int)
  | [], _, r => r
  | (m, c) :: p, q, r => pmul p q (pmul1 m c q r)
theorem evalP_pmul (env : List T) : ∀ p q r, evalP env (pmul p q r) = evalP env p * evalP env q + evalP env r
  | [], q, r => by show _ = 0 * _ + _; rw [zero_mul, rzero_add]; rfl
  | (m, c) :: p, q, r => by
    show evalP env (pmul p q (pmul1 m c q r)) = (icast c * evalM env m + evalP env p) * _ + _
    rw [evalP_pmul env p q, evalP_pmul1, radd_mul, add_left_comm, radd_assoc]
def pneg (p : List (List Nat × Int)) : List (List Nat × Int) := p.map fun t => (t.1, -t.2)
theorem evalP_pneg (env : List T) : ∀ p, evalP env (pneg p) = -evalP env p
  | [] => by
    show (0 : T) = -0
    have : (0 : T) + -0 = -0 := rzero_add _
    rwa [add_neg] at this
  | (m, c) :: p => by
    show icast (-c) * evalM env m + evalP env (pneg p) = -(icast c * evalM env m + evalP env p)
    rw [evalP_pneg env p, icast_neg, neg_mul, neg_add]

/-- Expressions. -/
inductive Ex where
  | v (i : Nat)
  | n (k : Nat)
  | add (a b : Ex)
  | sub (a b : Ex)
  | mul (a b : Ex)
  | neg (a : Ex)

def unit : Nat → List Nat
  | 0 => [1]
  | i + 1 => 0 :: unit i
def look : List T → Nat → T
  | [], _ => 1
  | x :: _, 0 => x
  | _ :: env, i + 1 => look env i
theorem evalM_unit : ∀ (env : List T) (i : Nat), evalM env (unit i) = look env i
  | [], _ => rfl
  | x :: env, 0 => by
    show rpow x 1 * evalM env [] = x
    rw [evalM_nil, mul_one]; exact rone_mul x
  | x :: env, i + 1 => by
    show 1 * evalM env (unit i) = look env i
    rw [rone_mul, evalM_unit env i]
def Ex.eval (env : List T) : Ex → T
  | .v i => look env i
  | .n k => ncast k
  | .add a b => a.eval env + b.eval env
  | .sub a b => a.eval env - b.eval env
  | .mul a b => a.eval env * b.eval env
  | .neg a => -a.eval env
def Ex.norm : Ex → List (List Nat × Int)
  | .v i => [(unit i, 1)]
  | .n k => if k = 0 then [] else [([], (k : Int))]
  | .add a b => padd a.norm b.norm
  | .sub a b => padd (pneg b.norm) a.norm
  | .mul a b => pmul a.norm b.norm []
  | .neg a => pneg a.norm
theorem icast_one : (icast 1 : T) = 1 := (icast_nat 1).trans ncast_one
theorem Ex.norm_eval (env : List T) : ∀ e : Ex, evalP env e.norm = e.eval env
  | .v i => by
    show icast 1 * evalM env (unit i) + 0 = look env i
    rw [icast_one, rone_mul, add_zero, evalM_unit]
  | .n k => by
    unfold Ex.norm
    by_cases h : k = 0
    · rw [if_pos h, h]; rfl
    · rw [if_neg h]
      show icast (k : Int) * evalM env [] + 0 = ncast k
      rw [add_zero, evalM_nil, mul_one, icast_nat]
  | .add a b => by show evalP env (padd _ _) = _ + _; rw [evalP_padd, norm_eval env a, norm_eval env b]
  | .sub a b => by show evalP env (padd _ _) = _ - _; rw [evalP_padd, evalP_pneg, norm_eval env a, norm_eval env b, rsub_eq, radd_comm]
  | .mul a b => by
    show evalP env (pmul _ _ _) = _ * _
    rw [evalP_pmul, norm_eval env a, norm_eval env b]; exact add_zero _
  | .neg a => by show evalP env (pneg _) = - _; rw [evalP_pneg, norm_eval env a]

/-- x stands in the list at place i. -/
class Look (x : T) (env : List T) (i : outParam Nat) : Prop where
  at_ : look env i = x
instance (x : T) (env : List T) : Look x (x :: env) 0 := ⟨rfl⟩
instance (x y0 : T) (env : List T) : Look x (y0 :: x :: env) 1 := ⟨rfl⟩
instance (x y0 y1 : T) (env : List T) : Look x (y0 :: y1 :: x :: env) 2 := ⟨rfl⟩
instance (x y0 y1 y2 : T) (env : List T) : Look x (y0 :: y1 :: y2 :: x :: env) 3 := ⟨rfl⟩
instance (x y0 y1 y2 y3 : T) (env : List T) : Look x (y0 :: y1 :: y2 :: y3 :: x :: env) 4 := ⟨rfl⟩
instance (x y0 y1 y2 y3 y4 : T) (env : List T) : Look x (y0 :: y1 :: y2 :: y3 :: y4 :: x :: env) 5 := ⟨rfl⟩
instance (x y0 y1 y2 y3 y4 y5 : T) (env : List T) : Look x (y0 :: y1 :: y2 :: y3 :: y4 :: y5 :: x :: env) 6 := ⟨rfl⟩
instance (x y0 y1 y2 y3 y4 y5 y6 : T) (env : List T) : Look x (y0 :: y1 :: y2 :: y3 :: y4 :: y5 :: y6 :: x :: env) 7 := ⟨rfl⟩
instance (x y0 y1 y2 y3 y4 y5 y6 y7 : T) (env : List T) : Look x (y0 :: y1 :: y2 :: y3 :: y4 :: y5 :: y6 :: y7 :: x :: env) 8 := ⟨rfl⟩
instance (x y0 y1 y2 y3 y4 y5 y6 y7 y8 : T) (env : List T) : Look x (y0 :: y1 :: y2 :: y3 :: y4 :: y5 :: y6 :: y7 :: y8 :: x :: env) 9 := ⟨rfl⟩
/-- x is said by e. -/
class Said (x : T) (env : List T) (e : outParam Ex) : Prop where
  is : e.eval env = x
instance (priority := low) (x : T) (env : List T) (i : Nat) [h : Look x env i] : Said x env (.v i) := ⟨h.at_⟩
instance (a b : T) (env : List T) (d e : Ex) [h : Said a env d] [k : Said b env e] : Said (a + b) env (.add d e) := ⟨by show _ + _ = _; rw [h.is, k.is]⟩
instance (a b : T) (env : List T) (d e : Ex) [h : Said a env d] [k : Said b env e] : Said (a - b) env (.sub d e) := ⟨by show _ - _ = _; rw [h.is, k.is]⟩
instance (a b : T) (env : List T) (d e : Ex) [h : Said a env d] [k : Said b env e] : Said (a * b) env (.mul d e) := ⟨by show _ * _ = _; rw [h.is, k.is]⟩
instance (a : T) (env : List T) (d : Ex) [h : Said a env d] : Said (-a) env (.neg d) := ⟨by show - _ = _; rw [h.is]⟩
instance (env : List T) : Said (0 : T) env (.n 0) := ⟨rfl⟩
instance (env : List T) : Said (1 : T) env (.n 1) := ⟨ncast_one⟩
instance (env : List T) (k : Nat) : Said (ncast k : T) env (.n k) := ⟨rfl⟩

def Ex.check (d e : Ex) : Bool := (Ex.sub d e).norm == []
/-- An equation by normal forms. -/
theorem ring {a b : T} (env : List T) {d e : Ex} [h : Said a env d] [k : Said b env e] (c : d.check e = true) : a = b := by
  rw [← h.is, ← k.is, ← sub_eq_zero]
  show (Ex.sub d e).eval env = 0
  rw [← Ex.norm_eval env (Ex.sub d e), eq_of_beq c]
  rfl

/-- By equations, times c, c2, ... -/
theorem lc1 {a b l r : T} (env : List T) (c : T) {ea eb el er ec : Ex} [sa : Said a env ea] [sb : Said b env eb] [sl : Said l env el] [sr : Said r env er] [sc : Said c env ec] (h : l = r) (k : (Ex.sub ea eb).check (.mul ec (.sub el er)) = true) : a = b := by
  have e : a - b = c * (l - r) := ring env k
  rw [h, sub_self, mul_zero] at e
  exact sub_eq_zero.1 e
theorem lc2 {a b l r l2 r2 : T} (env : List T) (c : T) (c2 : T) {ea eb el er ec el2 er2 ec2 : Ex} [sa : Said a env ea] [sb : Said b env eb] [sl : Said l env el] [sr : Said r env er] [sc : Said c env ec] [sl2 : Said l2 env el2] [sr2 : Said r2 env er2] [sc2 : Said c2 env ec2] (h : l = r) (h2 : l2 = r2) (k : (Ex.sub ea eb).check (.add (.mul ec (.sub el er)) (.mul ec2 (.sub el2 er2))) = true) : a = b := by
  have e : a - b = c * (l - r) + c2 * (l2 - r2) := ring env k
  rw [h, h2, sub_self, sub_self, mul_zero, mul_zero, add_zero] at e
  exact sub_eq_zero.1 e
theorem lc3 {a b l r l2 r2 l3 r3 : T} (env : List T) (c : T) (c2 : T) (c3 : T) {ea eb el er ec el2 er2 ec2 el3 er3 ec3 : Ex} [sa : Said a env ea] [sb : Said b env eb] [sl : Said l env el] [sr : Said r env er] [sc : Said c env ec] [sl2 : Said l2 env el2] [sr2 : Said r2 env er2] [sc2 : Said c2 env ec2] [sl3 : Said l3 env el3] [sr3 : Said r3 env er3] [sc3 : Said c3 env ec3] (h : l = r) (h2 : l2 = r2) (h3 : l3 = r3) (k : (Ex.sub ea eb).check (.add (.add (.mul ec (.sub el er)) (.mul ec2 (.sub el2 er2))) (.mul ec3 (.sub el3 er3))) = true) : a = b := by
  have e : a - b = c * (l - r) + c2 * (l2 - r2) + c3 * (l3 - r3) := ring env k
  rw [h, h2, h3, sub_self, sub_self, sub_self, mul_zero, mul_zero, mul_zero, add_zero, add_zero] at e
  exact sub_eq_zero.1 e
theorem lc4 {a b l r l2 r2 l3 r3 l4 r4 : T} (env : List T) (c : T) (c2 : T) (c3 : T) (c4 : T) {ea eb el er ec el2 er2 ec2 el3 er3 ec3 el4 er4 ec4 : Ex} [sa : Said a env ea] [sb : Said b env eb] [sl : Said l env el] [sr : Said r env er] [sc : Said c env ec] [sl2 : Said l2 env el2] [sr2 : Said r2 env er2] [sc2 : Said c2 env ec2] [sl3 : Said l3 env el3] [sr3 : Said r3 env er3] [sc3 : Said c3 env ec3] [sl4 : Said l4 env el4] [sr4 : Said r4 env er4] [sc4 : Said c4 env ec4] (h : l = r) (h2 : l2 = r2) (h3 : l3 = r3) (h4 : l4 = r4) (k : (Ex.sub ea eb).check (.add (.add (.add (.mul ec (.sub el er)) (.mul ec2 (.sub el2 er2))) (.mul ec3 (.sub el3 er3))) (.mul ec4 (.sub el4 er4))) = true) : a = b := by
  have e : a - b = c * (l - r) + c2 * (l2 - r2) + c3 * (l3 - r3) + c4 * (l4 - r4) := ring env k
  rw [h, h2, h3, h4, sub_self, sub_self, sub_self, sub_self, mul_zero, mul_zero, mul_zero, mul_zero, add_zero, add_zero, add_zero] at e
  exact sub_eq_zero.1 e
theorem lc5 {a b l r l2 r2 l3 r3 l4 r4 l5 r5 : T} (env : List T) (c : T) (c2 : T) (c3 : T) (c4 : T) (c5 : T) {ea eb el er ec el2 er2 ec2 el3 er3 ec3 el4 er4 ec4 el5 er5 ec5 : Ex} [sa : Said a env ea] [sb : Said b env eb] [sl : Said l env el] [sr : Said r env er] [sc : Said c env ec] [sl2 : Said l2 env el2] [sr2 : Said r2 env er2] [sc2 : Said c2 env ec2] [sl3 : Said l3 env el3] [sr3 : Said r3 env er3] [sc3 : Said c3 env ec3] [sl4 : Said l4 env el4] [sr4 : Said r4 env er4] [sc4 : Said c4 env ec4] [sl5 : Said l5 env el5] [sr5 : Said r5 env er5] [sc5 : Said c5 env ec5] (h : l = r) (h2 : l2 = r2) (h3 : l3 = r3) (h4 : l4 = r4) (h5 : l5 = r5) (k : (Ex.sub ea eb).check (.add (.add (.add (.add (.mul ec (.sub el er)) (.mul ec2 (.sub el2 er2))) (.mul ec3 (.sub el3 er3))) (.mul ec4 (.sub el4 er4))) (.mul ec5 (.sub el5 er5))) = true) : a = b := by
  have e : a - b = c * (l - r) + c2 * (l2 - r2) + c3 * (l3 - r3) + c4 * (l4 - r4) + c5 * (l5 - r5) := ring env k
  rw [h, h2, h3, h4, h5, sub_self, sub_self, sub_self, sub_self, sub_self, mul_zero, mul_zero, mul_zero, mul_zero, mul_zero, add_zero, add_zero, add_zero, add_zero] at e
  exact sub_eq_zero.1 e
end Rg
end Go.Proofs.YtjokcbjahidckaaGreat
/-! The group's formulas in plain words: the program's and the reference's, and that they agree. No condition. -/
namespace Go.Proofs.YtjokcbjahidckaaGreat
open Rg

/-- A field. -/
class Fd (T : Type) extends Rg T where
  finv : T → T
  fmul_inv : ∀ a : T, a ≠ 0 → a * finv a = 1
  fone : (1 : T) ≠ 0
  ftwo : (1 : T) + 1 ≠ 0

/-- A point: with inf it is the zero. -/
structure GP (T : Type) where
  x : T
  y : T
  inf : Bool
instance {T : Type} [DecidableEq T] : DecidableEq (GP T) := fun a b => if h : a.x = b.x ∧ a.y = b.y ∧ a.inf = b.inf then isTrue (by cases a; cases b; cases h.1; cases h.2.1; cases h.2.2; rfl) else isFalse fun e => h ⟨congrArg GP.x e, congrArg GP.y e, congrArg GP.inf e⟩
/-- A point in Jacobi's coordinates. -/
structure GW (T : Type) where
  x : T
  y : T
  z : T
instance {T : Type} [DecidableEq T] : DecidableEq (GW T) := fun a b => if h : a.x = b.x ∧ a.y = b.y ∧ a.z = b.z then isTrue (by cases a; cases b; cases h.1; cases h.2.1; cases h.2.2; rfl) else isFalse fun e => h ⟨congrArg GW.x e, congrArg GW.y e, congrArg GW.z e⟩

section spec
variable {T : Type} [Rg T] [DecidableEq T]

def gwide (p : GP T) : GW T := if p.inf then ⟨0, 0, 0⟩ else ⟨p.x, p.y, 1⟩

def gnarrow (inv : T → T) (p : GW T) : GP T :=
  if p.z = 0 then ⟨0, 0, true⟩ else ⟨p.x * (inv p.z * inv p.z), p.y * (inv p.z * (inv p.z * inv p.z)), false⟩

def twD (p : GW T) : T := let s := p.x + p.y * p.y; let d := s * s - p.x * p.x - p.y * p.y * (p.y * p.y); d + d
def twE (p : GW T) : T := p.x * p.x + (p.x * p.x + p.x * p.x)
def twX (p : GW T) : T := twE p * twE p - (twD p + twD p)
def twC (p : GW T) : T := let c := p.y * p.y * (p.y * p.y); let c2 := c + c; c2 + c2
def gtwice (p : GW T) : GW T := ⟨twX p, twE p * (twD p - twX p) - (twC p + twC p), p.y * p.z + p.y * p.z⟩

def sumU (p q : GW T) : T := p.x * (q.z * q.z)
def sumS (p q : GW T) : T := p.y * (q.z * (q.z * q.z))
def sumH (p q : GW T) : T := q.x * (p.z * p.z) - sumU p q
def sumD (p q : GW T) : T := q.y * (p.z * (p.z * p.z)) - sumS p q
def sumX (p q : GW T) : T :=
  let h := sumH p q; let d := sumD p q; let v := sumU p q * (h * h); d * d - h * (h * h) - (v + v)
def gsum (p q : GW T) : GW T :=
  if p.z = 0 then q else if q.z = 0 then p else
    if sumH p q = 0 then (if sumD p q = 0 then gtwice p else ⟨0, 0, 0⟩) else
      ⟨sumX p q, sumD p q * (sumU p q * (sumH p q * sumH p q) - sumX p q) - sumS p q * (sumH p q * (sumH p q * sumH p q)), sumH p q * (p.z * q.z)⟩

def gadd (inv : T → T) (p q : GP T) : GP T := gnarrow inv (gsum (gwide p) (gwide q))
def gneg (p : GP T) : GP T := ⟨p.x, 0 - p.y, p.inf⟩
def gtimes (q : GW T) (k : Nat) : GW T :=
  if h : k = 0 then ⟨0, 0, 0⟩ else
    let s := gtwice (gtimes q (k / 2))
    if k % 2 = 1 then gsum s q else s
  termination_by k
  decreasing_by omega
def gmul (inv : T → T) (p : GP T) (k : Nat) : GP T := gnarrow inv (gtimes (gwide p) k)
def gright (b x : T) : T := x * (x * x) + b
def gon (b : T) (p : GP T) : Prop := p.inf = true ∨ p.y * p.y = gright b p.x
instance (b : T) (p : GP T) : Decidable (gon b p) := inferInstanceAs (Decidable (_ ∨ _))

/-! The reference's. -/
def rdblD (p : GW T) : T := let d := p.x * (p.y * p.y); let d2 := d + d; d2 + d2
def rdblE (p : GW T) : T := p.x * p.x + p.x * p.x + p.x * p.x
def rdblN (p : GW T) : T := rdblE p * rdblE p - (rdblD p + rdblD p)
def rdblQ (p : GW T) : T := let q := p.y * p.y * (p.y * p.y); let q2 := q + q; let q4 := q2 + q2; q4 + q4
def rdbl (p : GW T) : GW T := ⟨rdblN p, rdblE p * (rdblD p - rdblN p) - rdblQ p, p.y * p.z + p.y * p.z⟩
def jnH (w : GW T) (p : GP T) : T := p.x * (w.z * w.z) - w.x
def jnR (w : GW T) (p : GP T) : T := p.y * (w.z * w.z * w.z) - w.y
def jnN (w : GW T) (p : GP T) : T := let h := jnH w p; let r := jnR w p; let v := w.x * (h * h); r * r - h * h * h - (v + v)
def rjoin (w : GW T) (p : GP T) : GW T :=
  if jnH w p = 0 then (if jnR w p = 0 then rdbl w else ⟨0, 0, 0⟩) else
    ⟨jnN w p, jnR w p * (w.x * (jnH w p * jnH w p) - jnN w p) - w.y * (jnH w p * jnH w p * jnH w p), w.z * jnH w p⟩
def rneg (p : GP T) : GP T := if p.inf then ⟨0, 0, true⟩ else ⟨p.x, 0 - p.y, false⟩
def rplus (inv : T → T) (p q : GP T) : GP T :=
  if p.inf then rneg (rneg q) else if q.inf then p else
    if p.x = q.x ∧ (p.y ≠ q.y ∨ p.y = 0) then ⟨0, 0, true⟩ else
      let s := if p.x = q.x then (p.x * p.x + p.x * p.x + p.x * p.x) * inv (p.y + p.y) else (q.y - p.y) * inv (q.x - p.x)
      let x := s * s - p.x - q.x
      ⟨x, s * (p.x - x) - p.y, false⟩
/-- The state of the loop: none where the sum is still zero. -/
def rnorm (w : GW T) : Option (GW T) := if w.z = 0 then none else some w
def rtimes (p : GP T) (k : Nat) : Option (GW T) :=
  if h : k = 0 then none else
    let s := match rtimes p (k / 2) with | none => none | some w => rnorm (rdbl w)
    if k % 2 = 1 then (match s with | none => some ⟨p.x, p.y, 1⟩ | some w => rnorm (rjoin w p)) else s
  termination_by k
  decreasing_by omega
def rback (inv : T → T) : Option (GW T) → GP T
  | none => ⟨0, 0, true⟩
  | some w => ⟨w.x * (inv w.z * inv w.z), w.y * (inv w.z * inv w.z * inv w.z), false⟩
def rmul (inv : T → T) (p : GP T) (k : Nat) : GP T := if p.inf then ⟨0, 0, true⟩ else rback inv (rtimes p k)
def rside (b x : T) : T := x * x * x + b
end spec

section eqs
variable {T : Type} [Rg T] [DecidableEq T]

theorem twD_eq {T : Type} [Rg T] (p : GW T) : twD p = rdblD p := by
  obtain ⟨x, y, z⟩ := p
  unfold twD rdblD
  exact ring [x, y] (by decide)
theorem twE_eq {T : Type} [Rg T] (p : GW T) : twE p = rdblE p := by
  obtain ⟨x, y, z⟩ := p
  unfold twE rdblE
  exact ring [x, y] (by decide)
theorem gtwice_eq {T : Type} [Rg T] (p : GW T) : gtwice p = rdbl p := by
  unfold gtwice rdbl twX rdblN
  rw [twD_eq, twE_eq]
  obtain ⟨x, y, z⟩ := p
  unfold twC rdblQ
  rfl

theorem gtwice_z {T : Type} [Rg T] (p : GW T) (h : p.z = 0) : (gtwice p).z = 0 := by
  show p.y * p.z + p.y * p.z = 0
  rw [h, mul_zero, rzero_add]

theorem gsum_join (w : GW T) (p : GP T) (h1 : (1 : T) ≠ 0) (hw : w.z ≠ 0) : gsum w ⟨p.x, p.y, 1⟩ = rjoin w p := by
  obtain ⟨x, y, z⟩ := w
  obtain ⟨px, py, inf⟩ := p
  have eu : sumU (⟨x, y, z⟩ : GW T) ⟨px, py, 1⟩ = x := by unfold sumU; exact ring [x] (by decide)
  have es : sumS (⟨x, y, z⟩ : GW T) ⟨px, py, 1⟩ = y := by unfold sumS; exact ring [y] (by decide)
  have eh : sumH (⟨x, y, z⟩ : GW T) ⟨px, py, 1⟩ = jnH ⟨x, y, z⟩ ⟨px, py, inf⟩ := by unfold sumH jnH; rw [eu]
  have ed : sumD (⟨x, y, z⟩ : GW T) ⟨px, py, 1⟩ = jnR ⟨x, y, z⟩ ⟨px, py, inf⟩ := by
    unfold sumD jnR; rw [es]
    rw [show z * (z * z) = z * z * z from ring [z] (by decide)]
  unfold gsum rjoin
  rw [if_neg hw, if_neg h1, eh, ed, gtwice_eq]
  unfold sumX jnN
  rw [eu, es, eh, ed]
  generalize jnH (⟨x, y, z⟩ : GW T) ⟨px, py, inf⟩ = h
  generalize jnR (⟨x, y, z⟩ : GW T) ⟨px, py, inf⟩ = r
  dsimp only
  rw [show h * (h * h) = h * h * h from ring [h] (by decide), show h * (z * 1) = z * h from ring [h, z] (by decide)]

theorem rtimes_z (p : GP T) (h1 : (1 : T) ≠ 0) (k : Nat) : ∀ w, rtimes p k = some w → w.z ≠ 0 := by
  intro w
  rw [rtimes]
  by_cases h : k = 0
  · rw [dif_pos h]; intro e; cases e
  · rw [dif_neg h]
    dsimp only
    have hn : ∀ v : GW T, rnorm v = some w → w.z ≠ 0 := by
      intro v e
      unfold rnorm at e
      by_cases hz : v.z = 0
      · rw [if_pos hz] at e; cases e
      · rw [if_neg hz] at e; injection e with e; subst e; exact hz
    have hs : ∀ o : Option (GW T), (match o with | none => none | some w => rnorm (rdbl w)) = some w → w.z ≠ 0 := by
      intro o e
      cases o with
      | none => cases e
      | some v => exact hn _ e
    by_cases hb : k % 2 = 1
    · rw [if_pos hb]
      intro e
      split at e
      · injection e with e; subst e; exact h1
      · exact hn _ e
    · rw [if_neg hb]
      exact hs _

/-- Both loops go alike. -/
theorem gtimes_r (p : GP T) (h1 : (1 : T) ≠ 0) (k : Nat) : rnorm (gtimes ⟨p.x, p.y, 1⟩ k) = rtimes p k := by
  induction k using Nat.strongRecOn with
  | ind k ih =>
    rw [rtimes, gtimes]
    by_cases h : k = 0
    · rw [dif_pos h, dif_pos h]
      unfold rnorm; rw [if_pos rfl]
    · rw [dif_neg h, dif_neg h]
      have ih := ih (k / 2) (by omega)
      dsimp only
      rw [← ih]
      generalize gtimes (⟨p.x, p.y, 1⟩ : GW T) (k / 2) = w
      have hs : (match rnorm w with | none => none | some w => rnorm (rdbl w)) = rnorm (gtwice w) := by
        by_cases hz : w.z = 0
        · have h2 := gtwice_z w hz
          unfold rnorm
          rw [if_pos hz, if_pos h2]
        · rw [gtwice_eq]
          rw [show rnorm w = some w from by unfold rnorm; rw [if_neg hz]]
      rw [hs]
      generalize gtwice w = v
      by_cases hb : k % 2 = 1
      · rw [if_pos hb, if_pos hb]
        by_cases hz : v.z = 0
        · rw [show rnorm v = none from by unfold rnorm; rw [if_pos hz]]
          unfold gsum
          rw [if_pos hz]
          unfold rnorm
          rw [if_neg h1]
        · rw [gsum_join v p h1 hz]
          rw [show rnorm v = some v from by unfold rnorm; rw [if_neg hz]]
      · rw [if_neg hb, if_neg hb]

theorem gtimes_zero (k : Nat) : (gtimes (⟨0, 0, 0⟩ : GW T) k).z = 0 := by
  induction k using Nat.strongRecOn with
  | ind k ih =>
    rw [gtimes]
    by_cases h : k = 0
    · rw [dif_pos h]
    · rw [dif_neg h]
      have h2 := gtwice_z _ (ih (k / 2) (by omega))
      dsimp only
      generalize gtwice (gtimes (⟨0, 0, 0⟩ : GW T) (k / 2)) = v at *
      split
      · unfold gsum; rw [if_pos h2]
      · exact h2

theorem gmul_r (inv : T → T) (p : GP T) (h1 : (1 : T) ≠ 0) (k : Nat) : gmul inv p k = rmul inv p k := by
  unfold gmul rmul gwide
  by_cases hi : p.inf = true
  · rw [if_pos hi, if_pos hi]
    unfold gnarrow
    rw [if_pos (gtimes_zero k)]
  · rw [if_neg hi, if_neg hi, ← gtimes_r p h1 k]
    generalize gtimes (⟨p.x, p.y, 1⟩ : GW T) k = w
    unfold gnarrow rnorm
    by_cases hz : w.z = 0
    · rw [if_pos hz, if_pos hz]; rfl
    · rw [if_neg hz, if_neg hz]
      unfold rback
      dsimp only
      rw [show inv w.z * (inv w.z * inv w.z) = inv w.z * inv w.z * inv w.z from ring [inv w.z] (by decide)]

theorem gneg_r {T : Type} [Rg T] (p : GP T) (h : p.inf = true → p = ⟨0, 0, true⟩) : (if p.inf then (⟨0, 0, true⟩ : GP T) else gneg p) = rneg p := by
  unfold rneg gneg
  by_cases hi : p.inf = true
  · rw [if_pos hi, if_pos hi]
  · rw [if_neg hi, if_neg hi]; simp [hi]
theorem gright_eq {T : Type} [Rg T] (b x : T) : gright b x = rside b x := by
  unfold gright rside
  rw [show x * (x * x) = x * x * x from ring [x] (by decide)]
end eqs

namespace Fd
variable {T : Type} [Fd T]
theorem cancel {a b c : T} (ha : a ≠ 0) (h : a * b = a * c) : b = c := by
  have h1 := fmul_inv a ha
  have : finv a * (a * b) = finv a * (a * c) := by rw [h]
  rw [← rmul_assoc, ← rmul_assoc, rmul_comm (finv a), h1, rone_mul, rone_mul] at this
  exact this
theorem mul_eq_zero {a b : T} (h : a * b = 0) : a = 0 ∨ b = 0 := by
  by_cases ha : a = 0
  · exact .inl ha
  · right; exact cancel ha (by rw [h, mul_zero])
theorem inv_uniq {a b : T} (h : a * b = 1) : finv a = b := by
  have ha : a ≠ 0 := by rintro rfl; rw [zero_mul] at h; exact fone h.symm
  exact cancel ha (by rw [fmul_inv a ha, h])
theorem inv_one : finv (1 : T) = 1 := inv_uniq (rone_mul 1)
theorem dbl_ne {a : T} (h : a ≠ 0) : a + a ≠ 0 := by
  intro e
  have : (1 + 1) * a = 0 := by rw [radd_mul, rone_mul]; exact e
  rcases mul_eq_zero this with h1 | h1
  · exact ftwo h1
  · exact h h1
end Fd

section field
variable {T : Type} [Fd T] [DecidableEq T]
open Go.Proofs.YtjokcbjahidckaaGreat.Fd

theorem gnarrow_wide (p : GP T) (hp : p.inf = true → p = ⟨0, 0, true⟩) : gnarrow finv (gwide p) = p := by
  unfold gnarrow gwide
  by_cases hi : p.inf = true
  · rw [if_pos hi, if_pos rfl, hp hi]
  · rw [if_neg hi, if_neg fone, inv_one, rone_mul, rone_mul, mul_one, mul_one]
    obtain ⟨x, y, inf⟩ := p
    cases inf with
    | true => exact absurd rfl hi
    | false => rfl

theorem rneg_rneg {T : Type} [Fd T] (p : GP T) (hp : p.inf = true → p = ⟨0, 0, true⟩) : rneg (rneg p) = p := by
  unfold rneg
  by_cases hi : p.inf = true
  · rw [if_pos hi, if_pos rfl, hp hi]
  · rw [if_neg hi, if_neg (by simp)]
    obtain ⟨x, y, inf⟩ := p
    cases inf with
    | true => exact absurd rfl hi
    | false =>
      dsimp only
      rw [show (0 : T) - (0 - y) = y from ring [y] (by decide)]

/-- The program's sum is the reference's. -/
theorem gadd_r (p q : GP T) (hp : p.inf = true → p = ⟨0, 0, true⟩) (hq : q.inf = true → q = ⟨0, 0, true⟩) : gadd finv p q = rplus finv p q := by
  unfold gadd rplus
  by_cases hi : p.inf = true
  · rw [if_pos hi, rneg_rneg q hq]
    have : gsum (gwide p) (gwide q) = gwide q := by
      unfold gsum
      rw [if_pos (by unfold gwide; rw [if_pos hi])]
    rw [this, gnarrow_wide q hq]
  · rw [if_neg hi]
    by_cases hj : q.inf = true
    · rw [if_pos hj]
      have : gsum (gwide p) (gwide q) = gwide p := by
        unfold gsum
        rw [if_neg (by unfold gwide; rw [if_neg hi]; exact fone), if_pos (by unfold gwide; rw [if_pos hj])]
      rw [this, gnarrow_wide p hp]
    · rw [if_neg hj]
      unfold gwide
      rw [if_neg hi, if_neg hj]
      rw [gsum_join ⟨p.x, p.y, 1⟩ q fone fone]
      obtain ⟨px, py, pi⟩ := p
      obtain ⟨qx, qy, qi⟩ := q
      have eh : jnH (⟨px, py, 1⟩ : GW T) ⟨qx, qy, qi⟩ = qx - px := by unfold jnH; exact ring [px, qx] (by decide)
      have er : jnR (⟨px, py, 1⟩ : GW T) ⟨qx, qy, qi⟩ = qy - py := by unfold jnR; exact ring [py, qy] (by decide)
      unfold rjoin
      rw [eh, er]
      dsimp only
      by_cases hx : px = qx
      · subst hx
        rw [if_pos (sub_self px)]
        by_cases hy : py = qy
        · subst hy
          rw [if_pos (sub_self py)]
          by_cases h0 : py = 0
          · subst h0
            rw [if_pos ⟨rfl, .inr rfl⟩]
            unfold gnarrow
            rw [if_pos (by show (0 : T) * 1 + 0 * 1 = 0; rw [mul_one, rzero_add])]
          · have hne : ¬ (px = px ∧ (py ≠ py ∨ py = 0)) := by
              rintro ⟨_, h | h⟩
              · exact h rfl
              · exact h0 h
            rw [if_neg hne, if_pos rfl]
            have hz : py + py ≠ 0 := dbl_ne h0
            have e := fmul_inv _ hz
            unfold gnarrow
            have e1 : (rdbl (⟨px, py, 1⟩ : GW T)).z = py + py := by show py * 1 + py * 1 = _; rw [mul_one]
            rw [e1, if_neg hz]
            have e2 : rdblD (⟨px, py, 1⟩ : GW T) = px * ((py + py) * (py + py)) := by unfold rdblD; exact ring [px, py] (by decide)
            have e3 : rdblQ (⟨px, py, 1⟩ : GW T) = py * ((py + py) * (py + py) * (py + py)) := by unfold rdblQ; exact ring [py] (by decide)
            have e4 : rdblE (⟨px, py, 1⟩ : GW T) = px * px + px * px + px * px := rfl
            unfold rdbl rdblN
            rw [e2, e3, e4]
            generalize px * px + px * px + px * px = E
            generalize finv (py + py) = i at *
            generalize py + py = h at *
            dsimp only
            congr 1
            · exact lc1 [px, E, h, i] (-((px + px) * (h * i + 1))) e (by decide)
            · exact lc1 [px, py, E, h, i] (E * i * (px + px + px) * (h * i + 1) - py * (h * h * (i * i) + h * i + 1)) e (by decide)
        · rw [if_neg (fun e => hy (sub_eq_zero.1 e).symm), if_pos ⟨rfl, .inl hy⟩]
          unfold gnarrow
          rw [if_pos rfl]
      · have hz : qx - px ≠ 0 := fun e => hx (sub_eq_zero.1 e).symm
        rw [if_neg hz, if_neg (fun h => hx h.1), if_neg hx]
        have e := fmul_inv _ hz
        unfold gnarrow
        dsimp only
        have e1 : (1 : T) * (qx - px) = qx - px := rone_mul _
        rw [e1, if_neg hz]
        unfold jnN
        rw [eh, er]
        have e5 : qx = qx - px + px := ring [px, qx] (by decide)
        generalize finv (qx - px) = i at *
        generalize qx - px = h at *
        generalize qy - py = d at *
        subst e5
        dsimp only
        congr 1
        · exact lc1 [px, h, d, i] (-((h + px + px) * (h * i + 1))) e (by decide)
        · exact lc1 [px, py, d, h, i] (d * i * (px + px + px + h) * (h * i + 1) - py * (h * h * (i * i) + h * i + 1)) e (by decide)
end field
end Go.Proofs.YtjokcbjahidckaaGreat
/-! The prime fields and their squares (a + b u, u u = -1) as fields. Conditions: the prime is 3 modulo 4. -/
namespace Go.Proofs.YtjokcbjahidckaaGreat
open Rg

/-- A prime that is 3 modulo 4. -/
class Pr (p : Nat) : Prop where
  prime : IsPrime p
  four : p % 4 = 3

theorem Pr.ge {p : Nat} (h : Pr p) : 3 ≤ p := by have := h.four; omega

/-- The numbers below p. -/
structure Zm (p : Nat) where
  val : Nat
  lt : val < p
instance {p : Nat} : DecidableEq (Zm p) := fun a b => if h : a.val = b.val then isTrue (by cases a; cases b; cases h; rfl) else isFalse fun e => h (congrArg Zm.val e)

namespace Zm
variable {p : Nat}
theorem ext : ∀ {a b : Zm p}, a.val = b.val → a = b
  | ⟨_, _⟩, ⟨_, _⟩, h => by cases h; rfl
variable [hp : Pr p]
def of (n : Nat) : Zm p := ⟨n % p, Nat.mod_lt _ (by have := hp.ge; omega)⟩
theorem val_of (n : Nat) : (of n : Zm p).val = n % p := rfl
theorem of_val (a : Zm p) : of a.val = a := ext (Nat.mod_eq_of_lt a.lt)
theorem of_eq {a b : Nat} : (of a : Zm p) = of b ↔ a % p = b % p := ⟨fun h => congrArg val h, fun h => ext h⟩
instance : Add (Zm p) := ⟨fun a b => of (a.val + b.val)⟩
instance : Mul (Zm p) := ⟨fun a b => of (a.val * b.val)⟩
instance : Neg (Zm p) := ⟨fun a => of (p - a.val)⟩
instance : Sub (Zm p) := ⟨fun a b => of (a.val + (p - b.val))⟩
instance : Zero (Zm p) := ⟨of 0⟩
instance : One (Zm p) := ⟨of 1⟩
theorem val_add (a b : Zm p) : (a + b).val = (a.val + b.val) % p := rfl
theorem val_mul (a b : Zm p) : (a * b).val = (a.val * b.val) % p := rfl
theorem val_neg (a : Zm p) : (-a).val = (p - a.val) % p := rfl
theorem val_sub (a b : Zm p) : (a - b).val = (a.val + (p - b.val)) % p := rfl
theorem val_zero : (0 : Zm p).val = 0 := Nat.zero_mod p
theorem val_one : (1 : Zm p).val = 1 := Nat.mod_eq_of_lt (by have := hp.ge; omega)
theorem eq_zero {a : Zm p} : a = 0 ↔ a.val = 0 := ⟨fun h => by rw [h, val_zero], fun h => ext (by rw [h, val_zero])⟩

instance : Rg (Zm p) where
  radd_assoc a b c := ext (by simp only [val_add, Nat.mod_add_mod, Nat.add_mod_mod, Nat.add_assoc])
  radd_comm a b := ext (by rw [val_add, val_add, Nat.add_comm])
  rzero_add a := ext (by rw [val_add, val_zero, Nat.zero_add, Nat.mod_eq_of_lt a.lt])
  rneg_add a := ext (by
    rw [val_add, val_neg, val_zero, Nat.mod_add_mod]
    have := a.lt
    rw [show p - a.val + a.val = p from by omega]; exact Nat.mod_self p)
  rsub_eq a b := ext (by rw [val_sub, val_add, val_neg, Nat.add_mod_mod])
  rmul_assoc a b c := ext (by simp only [val_mul, Nat.mod_mul_mod, Nat.mul_mod_mod, Nat.mul_assoc])
  rmul_comm a b := ext (by rw [val_mul, val_mul, Nat.mul_comm])
  rone_mul a := ext (by rw [val_mul, val_one, Nat.one_mul, Nat.mod_eq_of_lt a.lt])
  radd_mul a b c := ext (by simp only [val_mul, val_add, Nat.mod_mul_mod, Nat.mod_add_mod, Nat.add_mod_mod, Nat.add_mul])

def inv (a : Zm p) : Zm p := of (a.val ^ (p - 2))
theorem not_dvd {a : Zm p} (h : a ≠ 0) : ¬ p ∣ a.val := fun hd => h (eq_zero.2 (Nat.eq_zero_of_dvd_of_lt hd a.lt))
theorem mul_inv (a : Zm p) (h : a ≠ 0) : a * inv a = 1 := ext (by
  have h3 := hp.ge
  rw [val_mul, val_one]
  show a.val * (a.val ^ (p - 2) % p) % p = 1
  rw [Nat.mul_mod_mod, ← Nat.pow_succ', show (p - 2).succ = p - 1 from by omega]
  exact fermat1 hp.prime (not_dvd h))

instance : Fd (Zm p) where
  finv := inv
  fmul_inv := mul_inv
  fone h := by
    have h1 := eq_zero.1 h
    rw [val_one] at h1
    omega
  ftwo h := by
    have h1 := eq_zero.1 h
    have h3 := hp.ge
    rw [val_add, val_one, Nat.mod_eq_of_lt (by omega)] at h1
    omega

/-- -1 is no square. -/
theorem no_root (a : Zm p) : a * a + 1 ≠ 0 := by
  intro h
  have h3 := hp.ge
  have h4 := hp.four
  have ha : a ≠ 0 := by
    rintro rfl
    rw [Rg.mul_zero, rzero_add] at h
    exact Fd.fone h
  have e1 : a.val * a.val % p = p - 1 := by
    have h1 := eq_zero.1 h
    rw [val_add, val_mul, val_one] at h1
    have hlt : a.val * a.val % p < p := Nat.mod_lt _ (by omega)
    have hd := Nat.dvd_of_mod_eq_zero h1
    have := Nat.le_of_dvd (by omega) hd
    omega
  have hf := fermat1 hp.prime (not_dvd ha)
  obtain ⟨k, hk⟩ : ∃ k, p = 4 * k + 3 := ⟨p / 4, by omega⟩
  have e2 : a.val ^ (p - 1) = (a.val * a.val) ^ (2 * k + 1) := by
    rw [← Nat.pow_two, ← Nat.pow_mul]
    congr 1
    omega
  have e3 : (p - 1) * (p - 1) % p = 1 := by
    rw [show (p - 1) * (p - 1) = p * (p - 2) + 1 from by
      obtain ⟨q, hq⟩ : ∃ q, p = q + 2 := ⟨p - 2, by omega⟩
      rw [hq, show q + 2 - 1 = q + 1 from rfl, show q + 2 - 2 = q from rfl, Nat.add_mul, Nat.add_mul, Nat.mul_add]
      omega, Nat.mul_add_mod]
    exact Nat.mod_eq_of_lt (by omega)
  rw [e2, Nat.pow_mod, e1, Nat.pow_succ, Nat.pow_mul, Nat.pow_two, Nat.mul_mod, Nat.pow_mod, e3, Nat.one_pow] at hf
  rw [Nat.mod_eq_of_lt (show 1 < p by omega), Nat.one_mul, Nat.mod_mod, Nat.mod_eq_of_lt (by omega)] at hf
  omega
end Zm

/-- a + b u, where u u = -1. -/
structure Q2 (p : Nat) where
  re : Zm p
  im : Zm p
instance {p : Nat} : DecidableEq (Q2 p) := fun a b => if h : a.re = b.re ∧ a.im = b.im then isTrue (by cases a; cases b; cases h.1; cases h.2; rfl) else isFalse fun e => h ⟨congrArg Q2.re e, congrArg Q2.im e⟩

namespace Q2
variable {p : Nat} [hp : Pr p]
theorem ext {p : Nat} : ∀ {a b : Q2 p}, a.re = b.re → a.im = b.im → a = b
  | ⟨_, _⟩, ⟨_, _⟩, h, k => by cases h; cases k; rfl
instance : Add (Q2 p) := ⟨fun a b => ⟨a.re + b.re, a.im + b.im⟩⟩
instance : Mul (Q2 p) := ⟨fun a b => ⟨a.re * b.re - a.im * b.im, a.re * b.im + a.im * b.re⟩⟩
instance : Neg (Q2 p) := ⟨fun a => ⟨-a.re, -a.im⟩⟩
instance : Sub (Q2 p) := ⟨fun a b => ⟨a.re - b.re, a.im - b.im⟩⟩
instance : Zero (Q2 p) := ⟨⟨0, 0⟩⟩
instance : One (Q2 p) := ⟨⟨1, 0⟩⟩

instance : Rg (Q2 p) where
  radd_assoc a b c := ext (radd_assoc _ _ _) (radd_assoc _ _ _)
  radd_comm a b := ext (radd_comm _ _) (radd_comm _ _)
  rzero_add a := ext (rzero_add _) (rzero_add _)
  rneg_add a := ext (rneg_add _) (rneg_add _)
  rsub_eq a b := ext (rsub_eq _ _) (rsub_eq _ _)
  rmul_assoc a b c := by
    obtain ⟨a, a'⟩ := a
    obtain ⟨b, b'⟩ := b
    obtain ⟨c, c'⟩ := c
    exact ext (show (a * b - a' * b') * c - (a * b' + a' * b) * c' = a * (b * c - b' * c') - a' * (b * c' + b' * c) from ring [a, a', b, b', c, c'] (by decide))
      (show (a * b - a' * b') * c' + (a * b' + a' * b) * c = a * (b * c' + b' * c) + a' * (b * c - b' * c') from ring [a, a', b, b', c, c'] (by decide))
  rmul_comm a b := by
    obtain ⟨a, a'⟩ := a
    obtain ⟨b, b'⟩ := b
    exact ext (show a * b - a' * b' = b * a - b' * a' from ring [a, a', b, b'] (by decide)) (show a * b' + a' * b = b * a' + b' * a from ring [a, a', b, b'] (by decide))
  rone_mul a := by
    obtain ⟨a, a'⟩ := a
    exact ext (show 1 * a - 0 * a' = a from ring [a, a'] (by decide)) (show 1 * a' + 0 * a = a' from ring [a, a'] (by decide))
  radd_mul a b c := by
    obtain ⟨a, a'⟩ := a
    obtain ⟨b, b'⟩ := b
    obtain ⟨c, c'⟩ := c
    exact ext (show (a + b) * c - (a' + b') * c' = a * c - a' * c' + (b * c - b' * c') from ring [a, a', b, b', c, c'] (by decide))
      (show (a + b) * c' + (a' + b') * c = a * c' + a' * c + (b * c' + b' * c) from ring [a, a', b, b', c, c'] (by decide))

/-- The norm. -/
def nrm (a : Q2 p) : Zm p := a.re * a.re + a.im * a.im
def inv (a : Q2 p) : Q2 p := ⟨a.re * Fd.finv (nrm a), -a.im * Fd.finv (nrm a)⟩

theorem nrm_ne {a : Q2 p} (h : a ≠ 0) : nrm a ≠ 0 := by
  intro e
  by_cases hi : a.im = 0
  · unfold nrm at e
    rw [hi, Rg.mul_zero, Rg.add_zero] at e
    have hr : a.re = 0 := by rcases Fd.mul_eq_zero e with h | h <;> exact h
    exact h (ext hr hi)
  · have h1 := Fd.fmul_inv a.im hi
    apply Zm.no_root (a.re * Fd.finv a.im)
    unfold nrm at e
    generalize Fd.finv a.im = i at *
    generalize a.re = x at *
    generalize a.im = y at *
    exact lc2 [x, y, i] (i * i) (-(y * i + 1)) e h1 (by decide)

theorem mul_inv (a : Q2 p) (h : a ≠ 0) : a * inv a = 1 := by
  have h1 := Fd.fmul_inv (nrm a) (nrm_ne h)
  unfold inv
  generalize Fd.finv (nrm a) = i at *
  unfold nrm at h1
  obtain ⟨x, y⟩ := a
  dsimp only at *
  exact ext (show x * (x * i) - y * (-y * i) = 1 from lc1 [x, y, i] 1 h1 (by decide)) (show x * (-y * i) + y * (x * i) = 0 from ring [x, y, i] (by decide))

instance : Fd (Q2 p) where
  finv := inv
  fmul_inv := mul_inv
  fone h := Fd.fone (congrArg re h)
  ftwo h := Fd.ftwo (congrArg re h)

/-- The prime field in it. -/
def up (a : Zm p) : Q2 p := ⟨a, 0⟩
theorem up_inj {a b : Zm p} : up a = up b ↔ a = b := ⟨fun h => congrArg re h, fun h => by rw [h]⟩
theorem up_add (a b : Zm p) : up (a + b) = up a + up b := ext rfl (show (0 : Zm p) = 0 + 0 from (rzero_add 0).symm)
theorem up_sub (a b : Zm p) : up (a - b) = up a - up b := ext rfl (show (0 : Zm p) = 0 - 0 from (sub_self 0).symm)
theorem up_mul (a b : Zm p) : up (a * b) = up a * up b := ext (show a * b = a * b - 0 * 0 from ring [a, b] (by decide)) (show (0 : Zm p) = a * 0 + 0 * b from ring [a, b] (by decide))
theorem up_zero : up (0 : Zm p) = 0 := rfl
theorem up_one : up (1 : Zm p) = 1 := rfl
theorem up_inv (a : Zm p) : up (Fd.finv a) = Fd.finv (up a) := by
  by_cases h : a = 0
  · subst h
    have e : (Fd.finv (0 : Zm p)) = 0 := by
      apply Zm.eq_zero.2
      show (0 : Zm p).val ^ (p - 2) % p = 0
      rw [Zm.val_zero, Nat.zero_pow (by have := hp.ge; omega), Nat.zero_mod]
    rw [e]
    show up (0 : Zm p) = inv (up 0)
    unfold inv
    exact ext (show (0 : Zm p) = 0 * _ from (Rg.zero_mul _).symm) (show (0 : Zm p) = -0 * _ from by rw [neg_mul, Rg.zero_mul]; exact ring [] (by decide))
  · refine (Fd.inv_uniq ?_).symm
    rw [← up_mul, Fd.fmul_inv a h, up_one]
end Q2

/-! ### The prime field's points in the square's. -/
section
variable {p : Nat} [hp : Pr p]
open Q2
def GP.up (a : GP (Zm p)) : GP (Q2 p) := ⟨Q2.up a.x, Q2.up a.y, a.inf⟩
def GW.up (a : GW (Zm p)) : GW (Q2 p) := ⟨Q2.up a.x, Q2.up a.y, Q2.up a.z⟩
theorem up_eq0 {a : Zm p} : Q2.up a = 0 ↔ a = 0 := up_inj (b := 0)
theorem gwide_up (a : GP (Zm p)) : gwide a.up = (gwide a).up := by
  obtain ⟨x, y, i⟩ := a
  cases i <;> rfl
theorem gnarrow_up (a : GW (Zm p)) : gnarrow Fd.finv a.up = (gnarrow Fd.finv a).up := by
  unfold gnarrow
  by_cases h : a.z = 0
  · rw [if_pos h, if_pos (show a.up.z = 0 from up_eq0.2 h)]; rfl
  · rw [if_neg h, if_neg (show ¬ a.up.z = 0 from fun e => h (up_eq0.1 e))]
    unfold GP.up GW.up
    simp only [up_mul, up_inv]
theorem gtwice_up (a : GW (Zm p)) : gtwice a.up = (gtwice a).up := by
  unfold gtwice twX twE twD twC GW.up
  simp only [up_mul, up_sub, up_add]
theorem sumU_up (a b : GW (Zm p)) : sumU a.up b.up = Q2.up (sumU a b) := by unfold sumU GW.up; simp only [up_mul]
theorem sumS_up (a b : GW (Zm p)) : sumS a.up b.up = Q2.up (sumS a b) := by unfold sumS GW.up; simp only [up_mul]
theorem sumH_up (a b : GW (Zm p)) : sumH a.up b.up = Q2.up (sumH a b) := by unfold sumH; rw [sumU_up]; unfold GW.up; simp only [up_mul, up_sub]
theorem sumD_up (a b : GW (Zm p)) : sumD a.up b.up = Q2.up (sumD a b) := by unfold sumD; rw [sumS_up]; unfold GW.up; simp only [up_mul, up_sub]
theorem sumX_up (a b : GW (Zm p)) : sumX a.up b.up = Q2.up (sumX a b) := by unfold sumX; rw [sumU_up, sumH_up, sumD_up]; simp only [up_mul, up_sub, up_add]
theorem gsum_up (a b : GW (Zm p)) : gsum a.up b.up = (gsum a b).up := by
  unfold gsum
  by_cases h : a.z = 0
  · rw [if_pos h, if_pos (show a.up.z = 0 from up_eq0.2 h)]
  · rw [if_neg h, if_neg (show ¬ a.up.z = 0 from fun e => h (up_eq0.1 e))]
    by_cases h2 : b.z = 0
    · rw [if_pos h2, if_pos (show b.up.z = 0 from up_eq0.2 h2)]
    · rw [if_neg h2, if_neg (show ¬ b.up.z = 0 from fun e => h2 (up_eq0.1 e)), sumH_up, sumD_up, sumX_up, sumU_up, sumS_up]
      by_cases h3 : sumH a b = 0
      · rw [if_pos h3, if_pos (up_eq0.2 h3)]
        by_cases h4 : sumD a b = 0
        · rw [if_pos h4, if_pos (up_eq0.2 h4), gtwice_up]
        · rw [if_neg h4, if_neg (fun e => h4 (up_eq0.1 e))]; rfl
      · rw [if_neg h3, if_neg (fun e => h3 (up_eq0.1 e))]
        unfold GW.up
        simp only [up_mul, up_sub]
theorem gadd_up (a b : GP (Zm p)) : gadd Fd.finv a.up b.up = (gadd Fd.finv a b).up := by
  unfold gadd
  rw [gwide_up, gwide_up, gsum_up, gnarrow_up]
theorem gtimes_up (q : GW (Zm p)) (k : Nat) : gtimes q.up k = (gtimes q k).up := by
  induction k using Nat.strongRecOn with
  | ind k ih =>
    rw [gtimes.eq_def q.up k, gtimes.eq_def q k]
    by_cases h : k = 0
    · rw [dif_pos h, dif_pos h]; rfl
    · rw [dif_neg h, dif_neg h]
      dsimp only
      rw [ih (k / 2) (by omega), gtwice_up]
      by_cases hb : k % 2 = 1
      · rw [if_pos hb, if_pos hb, gsum_up]
      · rw [if_neg hb, if_neg hb]
theorem gmul_up (a : GP (Zm p)) (k : Nat) : gmul Fd.finv a.up k = (gmul Fd.finv a k).up := by
  unfold gmul
  rw [gwide_up, gtimes_up, gnarrow_up]
theorem gneg_up (a : GP (Zm p)) : gneg a.up = (gneg a).up := by
  unfold gneg GP.up
  rw [up_sub]; rfl
theorem gon_up (b : Zm p) (a : GP (Zm p)) : gon (Q2.up b) a.up ↔ gon b a := by
  unfold gon gright GP.up
  simp only [← up_mul, ← up_add, up_inj]
end
end Go.Proofs.YtjokcbjahidckaaGreat
/-! A region whose order is open, met by what each of its operations does, each told once. Condition: each waits for what it looks at. -/
namespace Go.Proofs.YtjokcbjahidckaaGreat
open Go.RowKit

/-- What a yield is made of that is not told ahead: numbers, addresses, values. -/
structure Dat where
  n : Nat → Nat
  o : Nat → Option Addr
  v : Nat → Value
def dat0 : Dat := ⟨fun _ => 0, fun _ => none, fun _ => undef⟩

/-- What an operation does: it yields v; a new block; the block of operation j is written over; it yields something of the form sh that R is true of; nothing, for it is not wanted. (ds: the operations whose new block or yield it hangs on.) -/
inductive Eff where
  | val (ds : List Nat) (v : List Dat → Value)
  | new (ds : List Nat) (cs : List Dat → Array Value) (t : TypeId)
  | put (j : Nat) (ds : List Nat) (cs : List Dat → Array Value)
  | ex (ds : List Nat) (sh : Dat → Value) (R : List Dat → Dat → World → Prop)
  | off

/-- What came out: new blocks, yields. -/
structure Got where
  γ : Nat → Nat
  δ : Nat → Dat

def Eff.env (E : Array Eff) (g : Got) (i : Nat) : Dat :=
  match E[i]? with
  | some (.new _ _ _) => ⟨fun _ => g.γ i, fun _ => none, fun _ => undef⟩
  | _ => g.δ i
def Eff.slot (E : Array Eff) (g : Got) (i : Nat) : Value :=
  match E[i]? with
  | some (.val ds v) => v (ds.map (Eff.env E g))
  | some (.new _ _ _) => .pointer (some ⟨g.γ i, 0, none⟩)
  | some (.ex _ sh _) => sh (g.δ i)
  | _ => undef
def Eff.deps : Eff → List Nat
  | .val ds _ => ds
  | .new ds _ _ => ds
  | .put _ ds _ => ds
  | .ex ds _ _ => ds
  | .off => []

/-- The operation that writes temporary t. -/
def ownOp (ops : Array Oper) (t : Nat) : Option Nat := (List.range ops.size).find? fun i => (ops[i]?).bind (·.dst) == some t

/-- The operation that writes over operation j's block. -/
def putOp (E : Array Eff) (j : Nat) : Option Nat := (List.range E.size).find? fun i => match E[i]? with | some (.put k _ _) => k == j | _ => false

def waitsFor (o : Oper) (j : Nat) : Bool := o.after.any fun e => Region.binds .any e && e.on == j

/-- Operation i waits for operation j, by way of others whose values it takes. -/
def reach (ops : Array Oper) : Nat → Nat → Nat → Bool
  | 0, _, _ => false
  | n + 1, i, j => match ops[i]? with
    | some o => waitsFor o j || o.after.any fun e => Region.binds .any e && ((match e.ground with | .data => true | _ => false) && reach ops n e.on j)
    | none => false

theorem reach_in {ops : Array Oper} {L : Array Bool} (hcl : ∀ (i : Nat) o j, ops[i]? = some o → L.getD i false = true → waitsFor o j = true → L.getD j false = true) {j : Nat} :
    ∀ (f i : Nat) o, ops[i]? = some o → (∀ j, waitsFor o j = true → L.getD j false = true) → reach ops f i j = true → L.getD j false = true
  | 0, _, _, _, _, h => by cases h
  | f + 1, i, o, ho, hd, h => by
    unfold reach at h
    rw [ho] at h
    simp only [Bool.or_eq_true] at h
    rcases h with h | h
    · exact hd j h
    · rw [Array.any_eq_true] at h
      obtain ⟨k, hk, h⟩ := h
      simp only [Bool.and_eq_true] at h
      have hw : L.getD o.after[k].on false = true := hd _ (by
        unfold waitsFor
        rw [Array.any_eq_true]
        exact ⟨k, hk, by simp [h.1]⟩)
      have hr := h.2.2
      cases f with
      | zero => cases hr
      | succ f =>
        cases hq : ops[o.after[k].on]? with
        | none => unfold reach at hr; rw [hq] at hr; cases hr
        | some o' => exact reach_in hcl (f + 1) _ o' hq (fun j hj => hcl _ o' j hq hw hj) hr

def Eff.okAt (ops : Array Oper) (E : Array Eff) (i : Nat) : Bool :=
  match ops[i]? with
  | none => false
  | some o =>
    (match o.op with | .select .. => false | _ => true) &&
    (match o.dst with | some d => ownOp ops d == some i | none => true) &&
    o.after.all (fun e => !Region.binds .any e || decide (e.on < i)) &&
    (o.looksAt ops).all (fun t => match ownOp ops t with | some j => if j < i then waitsFor o j else (j == i || match ops[j]? with | some o' => waitsFor o' i | none => false) | none => true) &&
    (match E[i]? with
     | some e => e.deps.all (fun j => reach ops (i + 1) i j) && (match e with
       | .put j _ _ => waitsFor o j && (match E[j]? with | some (.new _ _ _) => true | _ => false) && putOp E j == some i
       | .new _ _ _ => o.dst.isSome
       | _ => true)
     | none => true)

def Eff.ok (ops : Array Oper) (E : Array Eff) : Bool :=
  decide (E.size ≤ ops.size) && ((List.range E.size).all fun i => Eff.okAt ops E i) &&
  (List.range ops.size).all fun i => decide (i < E.size) || match ops[i]? with | some o => (o.after.all fun e => !Region.binds .any e || decide (e.on < i)) && (List.range E.size).all fun j => waitsFor o j | none => true

section
variable (ops : Array Oper) (E : Array Eff)

/-- The frame where some have come up. -/
def layT (σ : Nat → Value) (L : Array Bool) (t : Nat) (v : Value) : Value :=
  match ownOp ops t with
  | some i => if L.getD i false then σ i else v
  | none => v
def layA (σ : Nat → Value) (L : Array Bool) (a : Act) : Act := { a with tmps := a.tmps.mapIdx fun t v => layT ops σ L t v }

/-- The frame behind all. -/
def finA (σ : Nat → Value) : List Oper → Nat → Act → Act
  | [], _, a => a
  | o :: os, i, a => finA σ os (i + 1) (a.put o.dst (σ i))
end

theorem ownOp_some {ops : Array Oper} {t i : Nat} (h : ownOp ops t = some i) : i < ops.size ∧ (ops[i]?).bind (·.dst) = some t := by
  have h1 := List.find?_some h
  have h2 := List.mem_of_find?_eq_some h
  exact ⟨by simpa using h2, by simpa using h1⟩

theorem getD_set_self {L : Array Bool} {i : Nat} (h : i < L.size) (d : Bool) : (L.setIfInBounds i true).getD i d = true := by
  simp [h]

theorem layA_put {ops : Array Oper} {σ : Nat → Value} {L : Array Bool} {a : Act} {i : Nat} {o : Oper} (hi : ops[i]? = some o) (hL : i < L.size)
    (hd : ∀ d, o.dst = some d → ownOp ops d = some i) : (layA ops σ L a).put o.dst (σ i) = layA ops σ (L.setIfInBounds i true) a := by
  have hne : ∀ t j, ownOp ops t = some j → j ≠ i → o.dst ≠ some t := fun t j h hj e => by
    have := hd t e
    rw [h] at this
    exact hj (Option.some.inj this)
  have hsame : ∀ t v, o.dst ≠ some t → layT ops σ L t v = layT ops σ (L.setIfInBounds i true) t v := by
    intro t v ht
    unfold layT
    cases h : ownOp ops t with
    | none => rfl
    | some j =>
      by_cases hj : j = i
      · subst hj
        have := (ownOp_some h).2
        rw [hi] at this
        exact absurd this ht
      · simp only [getD_set_ne false (Ne.symm hj)]
  have key : ((layA ops σ L a).put o.dst (σ i)).tmps = (layA ops σ (L.setIfInBounds i true) a).tmps := by
    cases hdst : o.dst with
    | none =>
      show (layA ops σ L a).tmps = _
      unfold layA
      dsimp only
      congr 1
      funext t v
      exact hsame t v (by rw [hdst]; nofun)
    | some d =>
      show ((layA ops σ L a).tmps.setIfInBounds d (σ i)) = _
      unfold layA
      dsimp only
      apply Array.ext
      · simp
      · intro t h1 h2
        have h3 : t < a.tmps.size := by simpa using h2
        rw [Array.getElem_setIfInBounds (by simpa using h3)]
        rw [Array.getElem_mapIdx, Array.getElem_mapIdx]
        by_cases htd : d = t
        · rw [if_pos htd]
          subst htd
          unfold layT
          rw [hd d hdst]
          simp only
          rw [getD_set_self hL, if_pos rfl]
        · rw [if_neg htd]
          exact hsame t _ (by rw [hdst]; exact fun e => htd (Option.some.inj e))
  have kd : ((layA ops σ L a).put o.dst (σ i)).defers = (layA ops σ (L.setIfInBounds i true) a).defers := by cases o.dst <;> rfl
  cases hx : (layA ops σ L a).put o.dst (σ i) with
  | mk t d =>
    cases hy : layA ops σ (L.setIfInBounds i true) a with
    | mk t' d' =>
      rw [hx, hy] at key kd
      dsimp only at key kd
      rw [key, kd]

theorem layA_none {ops : Array Oper} {σ : Nat → Value} {n : Nat} {a : Act} : layA ops σ (Array.replicate n false) a = a := by
  unfold layA
  obtain ⟨t, d⟩ := a
  dsimp only
  congr 1
  apply Array.ext
  · simp
  · intro k h1 h2
    rw [Array.getElem_mapIdx]
    unfold layT
    cases ownOp ops k with
    | none => rfl
    | some i =>
      simp only
      rw [if_neg]
      simp [Array.getElem?_replicate]
      split <;> simp

/-- The first k have come up. -/
def firstB (n k : Nat) : Array Bool := Array.ofFn fun i : Fin n => decide (i.val < k)
theorem firstB_get {n k i : Nat} (hi : i < n) (d : Bool) : (firstB n k).getD i d = decide (i < k) := by
  unfold firstB
  simp [hi]
theorem firstB_set {n k : Nat} (hk : k < n) : (firstB n k).setIfInBounds k true = firstB n (k + 1) := by
  unfold firstB
  apply Array.ext
  · simp
  · intro i h1 h2
    have h3 : i < n := by simpa using h2
    rw [Array.getElem_setIfInBounds (by simpa using h3)]
    rw [Array.getElem_ofFn, Array.getElem_ofFn]
    split
    · subst_vars; simp
    · rename_i hne
      simp only [decide_eq_decide]
      omega

theorem finA_eq {ops : Array Oper} {σ : Nat → Value} {a : Act} {m : Nat} (hd : ∀ (i : Nat) o d, i < m → ops[i]? = some o → o.dst = some d → ownOp ops d = some i) (hm : m ≤ ops.size) :
    ∀ (os : List Oper) (k : Nat), (ops.toList.take m).drop k = os → k ≤ m → finA σ os k (layA ops σ (firstB ops.size k) a) = layA ops σ (firstB ops.size m) a
  | [], k, h, hk => by
    have h1 : ((ops.toList.take m).drop k).length = 0 := by rw [h]; rfl
    have e : k = m := by simp at h1; omega
    subst e
    rfl
  | o :: os, k, h, hk => by
    have h1 : ((ops.toList.take m).drop k).length = os.length + 1 := by rw [h]; rfl
    have hlt : k < m := by simp at h1; omega
    have hget : ops[k]? = some o := by
      have : ((ops.toList.take m).drop k)[0]? = some o := by rw [h]; rfl
      rw [List.getElem?_drop, List.getElem?_take] at this
      simpa [hlt] using this
    have htl : (ops.toList.take m).drop (k + 1) = os := by
      rw [← List.drop_drop, h]; rfl
    show finA σ os (k + 1) ((layA ops σ (firstB ops.size k) a).put o.dst (σ k)) = _
    rw [layA_put hget (by unfold firstB; simp; omega) (fun d hdd => hd k o d hlt hget hdd), firstB_set (by omega)]
    exact finA_eq hd hm os (k + 1) htl (by omega)

theorem finA_take {ops : Array Oper} {σ : Nat → Value} {a : Act} {m : Nat} (hd : ∀ (i : Nat) o d, i < m → ops[i]? = some o → o.dst = some d → ownOp ops d = some i) (hm : m ≤ ops.size) :
    finA σ (ops.toList.take m) 0 a = layA ops σ (firstB ops.size m) a := by
  have := finA_eq (a := a) (σ := σ) hd hm (ops.toList.take m) 0 (by simp) (by omega)
  rwa [show firstB ops.size 0 = Array.replicate ops.size false from by apply Array.ext <;> simp [firstB], layA_none] at this

theorem count_split {L : Array Bool} {n m : Nat} (hL : L.size = n) (hge : ∀ i, m ≤ i → L.getD i false = false) : L.toList.countP (fun b => !b) = (L.toList.take m).countP (fun b => !b) + (n - m) := by
  conv => lhs; rw [← List.take_append_drop m L.toList]
  rw [List.countP_append]
  congr 1
  have : (L.toList.drop m).countP (fun b => !b) = (L.toList.drop m).length := by
    rw [List.countP_eq_length]
    intro b hb
    obtain ⟨k, hk, rfl⟩ := List.mem_iff_getElem.1 hb
    have hk2 : m + k < L.size := by simp at hk; omega
    have := hge (m + k) (by omega)
    simp [hk2] at this
    simp [this]
  rw [this, List.length_drop]
  simp [hL]

theorem least_false {L : Array Bool} {n m : Nat} (hL : L.size = n) (hm : m ≤ n) (hge : ∀ i, m ≤ i → L.getD i false = false) (hc : n - m < L.toList.countP (fun b => !b)) : ∃ i, i < m ∧ L.getD i false = false ∧ ∀ j, j < i → L.getD j false = true := by
  rcases Classical.em (∃ i, i < m ∧ L.getD i false = false ∧ ∀ j, j < i → L.getD j false = true) with h | h
  · exact h
  · exfalso
    have hall : ∀ i, i < m → L.getD i false = true := by
      intro i
      induction i using Nat.strongRecOn with
      | ind i ih =>
        intro hi
        cases hb : L.getD i false with
        | true => rfl
        | false => exact absurd ⟨i, hi, hb, fun j hj => ih j hj (by omega)⟩ h
    rw [count_split hL hge] at hc
    have : (L.toList.take m).countP (fun b => !b) = 0 := by
      rw [List.countP_eq_zero]
      intro b hb
      obtain ⟨k, hk, rfl⟩ := List.mem_iff_getElem.1 hb
      have hk2 : k < L.size := by simp at hk; omega
      have := hall k (by simp at hk; omega)
      simp [hk2] at this
      simp [this]
    omega

theorem eq_firstB {L : Array Bool} {n m : Nat} (hL : L.size = n) (hge : ∀ i, m ≤ i → L.getD i false = false) (hc : L.toList.countP (fun b => !b) = n - m) : L = firstB n m := by
  have h0 : (L.toList.take m).countP (fun b => !b) = 0 := by
    have := count_split hL hge
    omega
  rw [List.countP_eq_zero] at h0
  apply Array.ext
  · simp [firstB, hL]
  · intro i h1 h2
    simp only [firstB, Array.getElem_ofFn]
    rcases Nat.lt_or_ge i m with h | h
    · rw [decide_eq_true h]
      have hmem : L[i] ∈ L.toList.take m := List.mem_iff_getElem.2 ⟨i, by simp; omega, by simp⟩
      have := h0 _ hmem
      simpa using this
    · rw [decide_eq_false (by omega)]
      have := hge i h
      simpa [h1] using this

theorem layA_congr {ops : Array Oper} {σ σ' : Nat → Value} {L : Array Bool} {a : Act} (h : ∀ j, L.getD j false = true → σ j = σ' j) : layA ops σ L a = layA ops σ' L a := by
  unfold layA
  congr 1
  congr 1
  funext t v
  unfold layT
  cases ownOp ops t with
  | none => rfl
  | some j =>
    simp only
    by_cases hj : L.getD j false = true
    · rw [if_pos hj, if_pos hj, h j hj]
    · rw [if_neg hj, if_neg hj]

/-- What an operation looks at is the same here as behind the first i. -/
theorem lay_agree {ops : Array Oper} {σ : Nat → Value} {L : Array Bool} {a : Act} {o : Oper} {i : Nat}
    (hl : ∀ t, t ∈ o.looksAt ops → ∀ j, ownOp ops t = some j → (j < i ∧ L.getD j false = true) ∨ (i ≤ j ∧ L.getD j false = false)) (t : Nat) (ht : t ∈ o.looksAt ops) :
    (layA ops σ L a).tmps[t]? = (layA ops σ (firstB ops.size i) a).tmps[t]? := by
  unfold layA
  simp only [Array.getElem?_mapIdx]
  congr 1
  funext v
  unfold layT
  cases h : ownOp ops t with
  | none => rfl
  | some j =>
    simp only
    rcases hl t ht j h with ⟨h1, h2⟩ | ⟨h1, h2⟩
    · rw [if_pos h2, if_pos (by rw [firstB_get (ownOp_some h).1]; exact decide_eq_true h1)]
    · rw [if_neg (by rw [h2]; decide), if_neg (by rw [firstB_get (ownOp_some h).1, decide_eq_false (by omega)]; decide)]

theorem exec_agree {ops : Array Oper} {σ : Nat → Value} {L : Array Bool} {a : Act} {o : Oper} {i : Nat} (hs : ∀ cs b, o.op ≠ .select cs b)
    (hl : ∀ t, t ∈ o.looksAt ops → ∀ j, ownOp ops t = some j → (j < i ∧ L.getD j false = true) ∨ (i ≤ j ∧ L.getD j false = false)) :
    execOp (layA ops σ L a).eval o = execOp (layA ops σ (firstB ops.size i) a).eval o := by
  refine execOp_congr o hs fun x hx => ?_
  cases x with
  | tmp t =>
    have ht : t ∈ o.looksAt ops := List.mem_append_left _ (List.mem_filterMap.2 ⟨.tmp t, by simpa using hx, rfl⟩)
    have := lay_agree (σ := σ) (a := a) hl t ht
    simp only [Act.eval, Array.getD_eq_getD_getElem?, this]
  | const v => rfl
  | global g => rfl
  | func f => rfl

theorem wanted_agree {ops : Array Oper} {σ : Nat → Value} {L : Array Bool} {a : Act} {o : Oper} {i : Nat}
    (hl : ∀ t, t ∈ o.looksAt ops → ∀ j, ownOp ops t = some j → (j < i ∧ L.getD j false = true) ∨ (i ≤ j ∧ L.getD j false = false)) :
    Region.wanted o (yielded ops (layA ops σ L a).tmps) = Region.wanted o (yielded ops (layA ops σ (firstB ops.size i) a).tmps) := by
  unfold Region.wanted
  cases hg : o.guard with
  | none => rfl
  | some gw =>
    obtain ⟨g, want⟩ := gw
    simp only
    have : yielded ops (layA ops σ L a).tmps g = yielded ops (layA ops σ (firstB ops.size i) a).tmps g := by
      unfold yielded
      cases hd : (ops[g]?).bind (·.dst) with
      | none => rfl
      | some t =>
        have ht : t ∈ o.looksAt ops := List.mem_append_right _ (by rw [hg]; simp [hd])
        simp only [Option.bind_some]
        rw [lay_agree (σ := σ) (a := a) hl t ht]
    rw [this]

theorem countP_set {L : Array Bool} {i : Nat} (hi : L[i]? = some false) : L.toList.countP (fun b => !b) = (L.setIfInBounds i true).toList.countP (fun b => !b) + 1 := by
  rw [Array.toList_setIfInBounds]
  have h : L.toList[i]? = some false := by simpa using hi
  generalize L.toList = l at h ⊢
  clear hi
  induction l generalizing i with
  | nil => simp at h
  | cons b l ih =>
    cases i with
    | zero =>
      simp at h
      subst h
      simp
    | succ i =>
      simp only [List.getElem?_cons_succ] at h
      simp only [List.set_cons_succ, List.countP_cons]
      rw [ih h]
      omega

/-- Everything stands, but for blocks of the types T (variables). -/
structure Grow (T : List TypeId) (w w' : World) : Prop where
  os : w'.os = w.os
  tape : w'.tape = w.tape
  output : w'.output = w.output
  size : w.heap.size ≤ w'.heap.size
  block : ∀ (k : Nat) o, w.heap[k]? = some o → (∀ C t fr, o = .cells C t fr → T.contains t = false) → w'.heap[k]? = some o

theorem Grow.refl (T : List TypeId) (w : World) : Grow T w w := ⟨rfl, rfl, rfl, Nat.le_refl _, fun _ _ h _ => h⟩
theorem Grow.trans {T : List TypeId} {a b c : World} (h : Grow T a b) (k : Grow T b c) : Grow T a c :=
  ⟨k.os.trans h.os, k.tape.trans h.tape, k.output.trans h.output, Nat.le_trans h.size k.size, fun i o hi ht => k.block i o (h.block i o hi ht) ht⟩
theorem below_grow {T : List TypeId} {w w' : World} (h : Below w.heap.size w w') : Grow T w w' :=
  ⟨h.os, h.tape, h.output, h.size, fun k o hk _ => by rw [h.block k (Array.getElem?_eq_some_iff.1 hk).1]; exact hk⟩
theorem OnlyB.toGrow {T : List TypeId} {w w' : World} {b : Nat} {C : Array Value} {t : TypeId} {fr : Nat × Nat} (h : OnlyB b w w') (hb : w.heap[b]? = some (.cells C t fr)) (ht : T.contains t = true) : Grow T w w' :=
  ⟨h.os, h.tape, h.output, Nat.le_of_eq h.size.symm, fun k o hk hn => by
    by_cases e : k = b
    · subst e
      rw [hb] at hk
      cases hk
      rw [hn C t fr rfl] at ht
      cases ht
    · rw [h.block k e]; exact hk⟩
theorem Grow.drew {T : List TypeId} {w w' : World} (h : Grow T w w') : Grow T w w'.drew := ⟨h.os, h.tape, h.output, h.size, h.block⟩

/-- What is asked of an operation that yields v. -/
def valU (P : Program) (w : World) (v : Value) : Result Next → Prop
  | .ok (.value u) w' => u = v ∧ w' = w
  | .ok (.enter f args) w' => w' = w ∧ Calls P f args w (Ret w v)
  | _ => False
/-- Something comes back that R is true of. -/
def RetR (w : World) (sh : Dat → Value) (R : Dat → World → Prop) (e : Ending) (w' : World) : Prop := ∃ d, e = .returned (sh d) ∧ Below w.heap.size w w' ∧ R d w'
/-- What is asked of one that yields something that R is true of. -/
def exU (P : Program) (w : World) (sh : Dat → Value) (R : Dat → World → Prop) : Result Next → Prop
  | .ok (.value u) w' => ∃ d, u = sh d ∧ R d w' ∧ Below w.heap.size w w'
  | .ok (.enter f args) w' => w' = w ∧ Calls P f args w (RetR w sh R)
  | _ => False
/-- What is asked of one that makes a block. -/
def newU (w : World) (cs : Array Value) (t : TypeId) : Result Next → Prop
  | .ok (.value u) w' => u = .pointer (some ⟨w.heap.size, 0, none⟩) ∧ w' = w.alloc (.cells cs t)
  | _ => False
/-- What is asked of one that writes a block over. -/
def putU (w : World) (g : Nat) (cs : Array Value) (t : TypeId) : Result Next → Prop
  | .ok .skip w' => OnlyB g w w' ∧ w'.heap[g]? = some (.cells cs t (0, 0))
  | _ => False

/-- What lies in operation i's block at first; what operation k writes. -/
def Eff.cs0 (E : Array Eff) (g : Got) (i : Nat) : Array Value := match E[i]? with | some (.new ds cs _) => cs (ds.map (Eff.env E g)) | _ => #[]
def Eff.cs1 (E : Array Eff) (g : Got) (k : Nat) : Array Value := match E[k]? with | some (.put _ ds cs) => cs (ds.map (Eff.env E g)) | _ => #[]
/-- What lies in operation i's block when all have come up. -/
def Eff.cont (E : Array Eff) (g : Got) (i : Nat) : Array Value := match putOp E i with | some k => Eff.cs1 E g k | none => Eff.cs0 E g i
def Eff.contL (E : Array Eff) (g : Got) (L : Array Bool) (i : Nat) : Array Value := match putOp E i with | some k => if L.getD k false then Eff.cs1 E g k else Eff.cs0 E g i | none => Eff.cs0 E g i

/-- The facts on which an operation may lean. -/
def Facts (E : Array Eff) (g : Got) (o : Oper) (w : World) : Prop := ∀ j ds sh R, waitsFor o j = true → E[j]? = some (.ex ds sh R) → R (ds.map (Eff.env E g)) (g.δ j) w

/-- What is owed for operation i. -/
def Owed (P : Program) (T : List TypeId) (ops : Array Oper) (E : Array Eff) (a : Act) (w0 : World) (i : Nat) : Prop :=
  match ops[i]?, E[i]? with
  | some o, some e => ∀ g w, Below w0.heap.size w0 w → Grow T w0 w → Facts E g o w →
    match e with
    | .off => Region.wanted o (yielded ops (finA (Eff.slot E g) (ops.toList.take i) 0 a).tmps) = false
    | .val ds v => Region.wanted o (yielded ops (finA (Eff.slot E g) (ops.toList.take i) 0 a).tmps) = true ∧ valU P w (v (ds.map (Eff.env E g))) ((execOp (finA (Eff.slot E g) (ops.toList.take i) 0 a).eval o).run P w)
    | .new ds cs t => Region.wanted o (yielded ops (finA (Eff.slot E g) (ops.toList.take i) 0 a).tmps) = true ∧ newU w (cs (ds.map (Eff.env E g))) t ((execOp (finA (Eff.slot E g) (ops.toList.take i) 0 a).eval o).run P w)
    | .put j ds cs => Region.wanted o (yielded ops (finA (Eff.slot E g) (ops.toList.take i) 0 a).tmps) = true ∧
        ∀ ds' cs' t, E[j]? = some (.new ds' cs' t) → w.heap[g.γ j]? = some (.cells (Eff.cs0 E g j) t (0, 0)) → putU w (g.γ j) (cs (ds.map (Eff.env E g))) t ((execOp (finA (Eff.slot E g) (ops.toList.take i) 0 a).eval o).run P w)
    | .ex ds sh R => Region.wanted o (yielded ops (finA (Eff.slot E g) (ops.toList.take i) 0 a).tmps) = true ∧ exU P w sh (R (ds.map (Eff.env E g))) ((execOp (finA (Eff.slot E g) (ops.toList.take i) 0 a).eval o).run P w)
  | _, _ => False

/-- What is known of memory when those of L have come up. -/
structure EffW (T : List TypeId) (E : Array Eff) (L : Array Bool) (g : Got) (w0 w : World) : Prop where
  below : Below w0.heap.size w0 w
  grow : Grow T w0 w
  blk : ∀ i ds cs t, L.getD i false = true → E[i]? = some (.new ds cs t) → w0.heap.size ≤ g.γ i ∧ g.γ i < w.heap.size ∧ w.heap[g.γ i]? = some (.cells (Eff.contL E g L i) t (0, 0))
  ne : ∀ i j ds cs t ds' cs' t', L.getD i false = true → L.getD j false = true → E[i]? = some (.new ds cs t) → E[j]? = some (.new ds' cs' t') → i ≠ j → g.γ i ≠ g.γ j
  fact : ∀ i ds sh R, L.getD i false = true → E[i]? = some (.ex ds sh R) → R (ds.map (Eff.env E g)) (g.δ i) w

/-- What is asked of the told effects: what is yielded stays true while memory grows; variables have types of T. -/
structure EffT (T : List TypeId) (E : Array Eff) : Prop where
  st : ∀ (i : Nat) ds sh R, E[i]? = some (.ex ds sh R) → ∀ l v w w', Grow T w w' → R l v w → R l v w'
  ty : ∀ (i : Nat) ds cs t k, E[i]? = some (.new ds cs t) → putOp E i = some k → T.contains t = true

theorem putOp_some {E : Array Eff} {i k : Nat} (h : putOp E i = some k) : ∃ ds cs, E[k]? = some (.put i ds cs) := by
  have h1 := List.find?_some h
  cases hk : E[k]? with
  | none => rw [hk] at h1; cases h1
  | some e =>
    rw [hk] at h1
    cases e with
    | put j ds cs => exact ⟨ds, cs, by simp at h1; rw [h1]⟩
    | val ds v => cases h1
    | new ds cs t => cases h1
    | ex ds sh R => cases h1
    | off => cases h1

theorem contL_same {E : Array Eff} {g : Got} {L : Array Bool} {i k : Nat} (h : ∀ j ds cs, E[k]? = some (.put j ds cs) → j ≠ i) : Eff.contL E g (L.setIfInBounds k true) i = Eff.contL E g L i := by
  unfold Eff.contL
  cases hp : putOp E i with
  | none => rfl
  | some m =>
    obtain ⟨ds, cs', hm⟩ := putOp_some hp
    have : k ≠ m := by rintro rfl; exact h i ds cs' hm rfl
    simp only [getD_set_ne false this]

/-- The same where those of L are concerned. -/
def Agree (L : Array Bool) (g g' : Got) : Prop := ∀ j, L.getD j false = true → g.γ j = g'.γ j ∧ g.δ j = g'.δ j
theorem env_congr {E : Array Eff} {L : Array Bool} {g g' : Got} (h : Agree L g g') {j : Nat} (hj : L.getD j false = true) : Eff.env E g j = Eff.env E g' j := by
  unfold Eff.env
  split
  · rw [(h j hj).1]
  · exact (h j hj).2
theorem envs_congr {E : Array Eff} {L : Array Bool} {g g' : Got} (h : Agree L g g') {ds : List Nat} (hd : ∀ j ∈ ds, L.getD j false = true) : ds.map (Eff.env E g) = ds.map (Eff.env E g') :=
  List.map_congr_left fun j hj => env_congr h (hd j hj)
/-- L holds what its operations hang on. -/
def Closed (E : Array Eff) (L : Array Bool) : Prop := ∀ (i : Nat) e, L.getD i false = true → E[i]? = some e → ∀ j ∈ e.deps, L.getD j false = true

theorem slot_congr {E : Array Eff} {L : Array Bool} {g g' : Got} (h : Agree L g g') (hc : Closed E L) {i : Nat} (hi : L.getD i false = true) : Eff.slot E g i = Eff.slot E g' i := by
  unfold Eff.slot
  cases hE : E[i]? with
  | none => rfl
  | some e =>
    cases e with
    | val ds v => simp only; rw [envs_congr (ds := ds) h (hc i _ hi hE)]
    | new ds cs t => simp only; rw [(h i hi).1]
    | put j ds cs => rfl
    | ex ds sh R => simp only; rw [(h i hi).2]
    | off => rfl

theorem contL_congr {E : Array Eff} {L : Array Bool} {g g' : Got} (h : Agree L g g') (hc : Closed E L) {i : Nat} (hi : L.getD i false = true) : Eff.contL E g L i = Eff.contL E g' L i := by
  have h0 : Eff.cs0 E g i = Eff.cs0 E g' i := by
    unfold Eff.cs0
    cases hE : E[i]? with
    | none => rfl
    | some e =>
      cases e with
      | new ds cs t => simp only; rw [envs_congr (ds := ds) h (hc i _ hi hE)]
      | _ => rfl
  unfold Eff.contL
  rw [h0]
  cases hp : putOp E i with
  | none => rfl
  | some k =>
    simp only
    by_cases hk : L.getD k false = true
    · rw [if_pos hk, if_pos hk]
      obtain ⟨ds, cs, hE⟩ := putOp_some hp
      unfold Eff.cs1
      rw [hE]
      simp only
      rw [envs_congr (ds := ds) h (hc k _ hk hE)]
    · rw [if_neg hk, if_neg hk]

theorem EffW.congr {T : List TypeId} {E : Array Eff} {L : Array Bool} {g g' : Got} {w0 w : World} (hW : EffW T E L g w0 w) (h : Agree L g g') (hc : Closed E L) : EffW T E L g' w0 w := by
  refine ⟨hW.below, hW.grow, fun i ds cs t h1 h2 => ?_, fun i j ds cs t ds' cs' t' h1 h2 h3 h4 h5 => ?_, fun i ds sh R h1 h2 => ?_⟩
  · rw [← (h i h1).1, ← contL_congr h hc h1]
    exact hW.blk i ds cs t h1 h2
  · rw [← (h i h1).1, ← (h j h2).1]
    exact hW.ne i j ds cs t ds' cs' t' h1 h2 h3 h4 h5
  · rw [← (h i h1).2, ← envs_congr (ds := ds) h (hc i _ h1 h2)]
    exact hW.fact i ds sh R h1 h2

/-- Operation k came up and memory grew. -/
theorem EffW.up {T : List TypeId} {E : Array Eff} {L : Array Bool} {g : Got} {w0 w w' : World} {k : Nat} (hT : EffT T E) (h : EffW T E L g w0 w) (hb : Below w.heap.size w w') (hk : ∀ j ds cs, E[k]? ≠ some (.put j ds cs)) (hn : ∀ ds cs t, E[k]? ≠ some (.new ds cs t))
    (hx : ∀ ds sh R, E[k]? = some (.ex ds sh R) → R (ds.map (Eff.env E g)) (g.δ k) w') : EffW T E (L.setIfInBounds k true) g w0 w' := by
  have hL : ∀ i, k ≠ i → (L.setIfInBounds k true).getD i false = true → L.getD i false = true := by
    intro i hi h1
    rwa [getD_set_ne false hi] at h1
  have hLn : ∀ i ds cs t, (L.setIfInBounds k true).getD i false = true → E[i]? = some (.new ds cs t) → L.getD i false = true := by
    intro i ds cs t h1 h2
    exact hL i (by rintro rfl; exact hn ds cs t h2) h1
  refine ⟨h.below.trans (hb.mono h.below.size), h.grow.trans (below_grow hb), fun i ds cs t h1 h2 => ?_, fun i j ds cs t ds' cs' t' h1 h2 h3 h4 => h.ne i j ds cs t ds' cs' t' (hLn i ds cs t h1 h3) (hLn j ds' cs' t' h2 h4) h3 h4, fun i ds sh R h1 h2 => ?_⟩
  · obtain ⟨b1, b2, b3⟩ := h.blk i ds cs t (hLn i ds cs t h1 h2) h2
    refine ⟨b1, Nat.lt_of_lt_of_le b2 hb.size, ?_⟩
    rw [hb.block _ b2, b3, contL_same (fun j ds cs' h => absurd h (hk j ds _))]
  · by_cases hi : k = i
    · subst hi; exact hx ds sh R h2
    · exact hT.st i ds sh R h2 _ _ _ _ (below_grow hb) (h.fact i ds sh R (hL i hi h1) h2)

/-- Operation k made a block. -/
theorem EffW.fresh {T : List TypeId} {E : Array Eff} {L : Array Bool} {g : Got} {w0 w : World} {k : Nat} {ds0 : List Nat} {cs0 : List Dat → Array Value} {t0 : TypeId} (hT : EffT T E) (h : EffW T E L g w0 w) (hk : E[k]? = some (.new ds0 cs0 t0)) (hkL : L.getD k true = false)
    (hput : ∀ m, putOp E k = some m → L.getD m false = false) (hγ : g.γ k = w.heap.size) :
    EffW T E (L.setIfInBounds k true) g w0 (w.alloc (.cells (cs0 (ds0.map (Eff.env E g))) t0)) := by
  have hb : Below w.heap.size w (w.alloc (.cells (cs0 (ds0.map (Eff.env E g))) t0)) := (Below.refl _ _).alloc (Nat.le_refl _) _
  have hnp : ∀ j ds cs, E[k]? ≠ some (.put j ds cs) := by intro j ds cs e; rw [hk] at e; cases e
  have hL : ∀ i, i ≠ k → (L.setIfInBounds k true).getD i false = true → L.getD i false = true := by
    intro i hi h1
    rwa [getD_set_ne false (Ne.symm hi)] at h1
  refine ⟨h.below.trans (hb.mono h.below.size), h.grow.trans (below_grow hb), fun i ds cs t h1 h2 => ?_, fun i j ds cs t ds' cs' t' h1 h2 h3 h4 hij => ?_, fun i ds sh R h1 h2 => ?_⟩
  · by_cases hi : i = k
    · subst hi
      rw [hk] at h2
      cases h2
      rw [hγ]
      refine ⟨h.below.size, by simp, ?_⟩
      have : Eff.contL E g (L.setIfInBounds i true) i = cs0 (ds0.map (Eff.env E g)) := by
        rw [contL_same (fun j ds cs' h => absurd h (hnp j ds cs'))]
        have h0 : Eff.cs0 E g i = cs0 (ds0.map (Eff.env E g)) := by unfold Eff.cs0; rw [hk]
        unfold Eff.contL
        cases hp : putOp E i with
        | none => exact h0
        | some m =>
          simp only
          rw [hput m hp]
          exact h0
      rw [this]
      exact heap_alloc_new _ _
    · obtain ⟨b1, b2, b3⟩ := h.blk i ds cs t (hL i hi h1) h2
      refine ⟨b1, by simp; omega, ?_⟩
      rw [hb.block _ b2, b3, contL_same (fun j ds cs' h => absurd h (hnp j ds cs'))]
  · by_cases hi : i = k
    · subst hi
      have hj : j ≠ i := Ne.symm hij
      rw [hγ]
      have := (h.blk j ds' cs' t' (hL j hj h2) h4).2.1
      omega
    · by_cases hj : j = k
      · subst hj
        rw [hγ]
        have := (h.blk i ds cs t (hL i hi h1) h3).2.1
        omega
      · exact h.ne i j ds cs t ds' cs' t' (hL i hi h1) (hL j hj h2) h3 h4 hij
  · have hi : i ≠ k := by rintro rfl; rw [hk] at h2; cases h2
    exact hT.st i ds sh R h2 _ _ _ _ (below_grow hb) (h.fact i ds sh R (hL i hi h1) h2)

/-- Operation k wrote operation j's block over. -/
theorem EffW.over {T : List TypeId} {E : Array Eff} {L : Array Bool} {g : Got} {w0 w w' : World} {k j : Nat} {ds0 ds1 : List Nat} {cs0 cs1 : List Dat → Array Value} {t : TypeId} (hT : EffT T E) (h : EffW T E L g w0 w) (hkL : k < L.size) (hk : E[k]? = some (.put j ds1 cs1)) (hj : E[j]? = some (.new ds0 cs0 t))
    (hjL : L.getD j false = true) (hp : putOp E j = some k) (ho : OnlyB (g.γ j) w w') (hn : w'.heap[g.γ j]? = some (.cells (cs1 (ds1.map (Eff.env E g))) t (0, 0))) : EffW T E (L.setIfInBounds k true) g w0 w' := by
  have hL : ∀ i, k ≠ i → (L.setIfInBounds k true).getD i false = true → L.getD i false = true := by
    intro i hi h1
    rwa [getD_set_ne false hi] at h1
  have hLn : ∀ i ds cs t, (L.setIfInBounds k true).getD i false = true → E[i]? = some (.new ds cs t) → L.getD i false = true := by
    intro i ds cs t h1 h2
    exact hL i (by rintro rfl; rw [hk] at h2; cases h2) h1
  obtain ⟨hge, _, hold⟩ := h.blk j ds0 cs0 t hjL hj
  have hg := ho.toGrow hold (hT.ty j ds0 cs0 t k hj hp)
  refine ⟨h.below.trans (ho.below hge), h.grow.trans hg, fun i ds cs t' h1 h2 => ?_, fun i j ds cs t ds' cs' t' h1 h2 h3 h4 => h.ne i j ds cs t ds' cs' t' (hLn i ds cs t h1 h3) (hLn j ds' cs' t' h2 h4) h3 h4, fun i ds sh R h1 h2 => ?_⟩
  · obtain ⟨b1, b2, b3⟩ := h.blk i ds cs t' (hLn i ds cs t' h1 h2) h2
    refine ⟨b1, by rw [ho.size]; exact b2, ?_⟩
    by_cases hij : i = j
    · subst hij
      rw [hj] at h2
      cases h2
      rw [hn]
      unfold Eff.contL
      rw [hp]
      simp only
      rw [getD_set_self hkL, if_pos rfl]
      unfold Eff.cs1
      rw [hk]
    · rw [ho.block _ (h.ne i j ds cs t' ds0 cs0 t (hLn i ds cs t' h1 h2) hjL h2 hj hij), b3]
      rw [contL_same (fun m ds' cs' hm e => by rw [hk] at hm; cases hm; exact hij e.symm)]
  · have hi : k ≠ i := by rintro rfl; rw [hk] at h2; cases h2
    exact hT.st i ds sh R h2 _ _ _ _ hg (h.fact i ds sh R (hL i hi h1) h2)

/-- All that is known of the frame and of memory when those of L have come up. -/
def EffI (T : List TypeId) (ops : Array Oper) (E : Array Eff) (L : Array Bool) (a : Act) (w0 : World) (a' : Act) (w' : World) : Prop := ∃ g, a' = layA ops (Eff.slot E g) L a ∧ EffW T E L g w0 w'

structure EffOk (ops : Array Oper) (E : Array Eff) (m : Nat) : Prop where
  sz : E.size = m
  le : m ≤ ops.size
  hd : ∀ (i : Nat) o d, i < m → ops[i]? = some o → o.dst = some d → ownOp ops d = some i
  sel : ∀ (i : Nat) o, i < m → ops[i]? = some o → ∀ cs b, o.op ≠ .select cs b
  down : ∀ (i : Nat) o, ops[i]? = some o → ∀ e ∈ o.after, Region.binds .any e = true → e.on < i
  look : ∀ (i : Nat) o, i < m → ops[i]? = some o → ∀ t, t ∈ o.looksAt ops → ∀ j, ownOp ops t = some j → (j < i ∧ waitsFor o j = true) ∨ (i ≤ j ∧ (j = i ∨ ∃ o', ops[j]? = some o' ∧ waitsFor o' i = true))
  deps : ∀ (i : Nat) o e, i < m → ops[i]? = some o → E[i]? = some e → ∀ j ∈ e.deps, reach ops (i + 1) i j = true
  put : ∀ (i : Nat) o j ds cs, i < m → ops[i]? = some o → E[i]? = some (.put j ds cs) → waitsFor o j = true ∧ (∃ ds0 cs0 t, E[j]? = some (.new ds0 cs0 t)) ∧ putOp E j = some i
  rest : ∀ (i : Nat) o, m ≤ i → ops[i]? = some o → ∀ j, j < m → waitsFor o j = true

theorem EffOk.of {ops : Array Oper} {E : Array Eff} (h : Eff.ok ops E = true) : EffOk ops E E.size := by
  simp only [Eff.ok, Bool.and_eq_true, decide_eq_true_eq, List.all_eq_true, List.mem_range] at h
  obtain ⟨⟨hle, hok⟩, hrest⟩ := h
  refine ⟨rfl, hle, ?_, ?_, ?_, ?_, ?_, ?_, ?_⟩
  · intro i o d hlt hi hdd
    have := hok i hlt
    simp only [Eff.okAt, hi, hdd, Bool.and_eq_true, beq_iff_eq] at this
    exact this.1.1.1.2
  · intro i o hlt hi cs b e
    have := hok i hlt
    simp only [Eff.okAt, hi, e, Bool.and_eq_true] at this
    exact absurd this.1.1.1.1 (by simp)
  · intro i o hi e he hb
    rcases Nat.lt_or_ge i E.size with hlt | hge
    · have := hok i hlt
      simp only [Eff.okAt, hi, Bool.and_eq_true] at this
      have h2 := this.1.1.2
      rw [Array.all_eq_true_iff_forall_mem] at h2
      simpa [hb] using h2 e he
    · have h := hrest i (Array.getElem?_eq_some_iff.1 hi).1
      rw [Bool.or_eq_true, decide_eq_true_eq] at h
      rcases h with h | h
      · omega
      · rw [hi] at h
        simp only [Bool.and_eq_true] at h
        have h2 := h.1
        rw [Array.all_eq_true_iff_forall_mem] at h2
        simpa [hb] using h2 e he
  · intro i o hlt hi t ht j hj
    have := hok i hlt
    simp only [Eff.okAt, hi, Bool.and_eq_true, List.all_eq_true] at this
    have h2 := this.1.2 t ht
    rw [hj] at h2
    simp only at h2
    by_cases hji : j < i
    · rw [if_pos hji] at h2
      exact .inl ⟨hji, h2⟩
    · rw [if_neg hji, Bool.or_eq_true, beq_iff_eq] at h2
      refine .inr ⟨by omega, h2.imp id fun h3 => ?_⟩
      cases h4 : ops[j]? with
      | none => rw [h4] at h3; cases h3
      | some o' => rw [h4] at h3; exact ⟨o', rfl, h3⟩
  · intro i o e hlt hi hE j hj
    have := hok i hlt
    simp only [Eff.okAt, hi, hE, Bool.and_eq_true, List.all_eq_true] at this
    exact this.2.1 j hj
  · intro i o j ds cs hlt hi hE
    have := hok i hlt
    simp only [Eff.okAt, hi, hE, Bool.and_eq_true, beq_iff_eq] at this
    obtain ⟨⟨h1, h2⟩, h3⟩ := this.2.2
    refine ⟨h1, ?_, h3⟩
    cases h : E[j]? with
    | none => rw [h] at h2; exact absurd h2 Bool.false_ne_true
    | some e' =>
      rw [h] at h2
      cases e' with
      | new ds0 cs0 t => exact ⟨ds0, cs0, t, rfl⟩
      | val ds v => exact absurd h2 Bool.false_ne_true
      | put k ds c => exact absurd h2 Bool.false_ne_true
      | ex ds sh R => exact absurd h2 Bool.false_ne_true
      | off => exact absurd h2 Bool.false_ne_true
  · intro i o hge hi j hj
    have hlt : i < ops.size := (Array.getElem?_eq_some_iff.1 hi).1
    have h := hrest i hlt
    rw [Bool.or_eq_true, decide_eq_true_eq] at h
    rcases h with h | h
    · omega
    · rw [hi] at h
      simp only [Bool.and_eq_true, List.all_eq_true, List.mem_range] at h
      exact h.2 j hj

/-- One operation comes up. -/
theorem eff_step {P : Program} {T : List TypeId} {ops : Array Oper} {Q : Exit → Act → World → Prop} {a : Act} {w0 : World} {E : Array Eff} {m : Nat} (hT : EffT T E) (hok : EffOk ops E m) {i : Nat} (him : i < m) (hO : Owed P T ops E a w0 i)
    {L : Array Bool} (hL : L.size = ops.size) (hun : L.getD i true = false) {o : Oper} (ho : ops[i]? = some o) (hdep : ∀ j, waitsFor o j = true → L.getD j false = true)
    (hcl : ∀ i o j, ops[i]? = some o → L.getD i false = true → waitsFor o j = true → L.getD j false = true) {a' : Act} {w' : World} (hI : EffI T ops E L a w0 a' w') :
    wpOp P ops Q i (EffI T ops E (L.setIfInBounds i true) a w0) a' w' := by
  obtain ⟨g, rfl, hW⟩ := hI
  have hlt : i < ops.size := (Array.getElem?_eq_some_iff.1 ho).1
  have hunD : L.getD i false = false := by simp [hL, hlt] at hun ⊢; exact hun
  have hsz := hok.sz
  obtain ⟨e, hE⟩ : ∃ e, E[i]? = some e := ⟨E[i]'(by omega), Array.getElem?_eq_getElem (by omega)⟩
  have hl : ∀ t, t ∈ o.looksAt ops → ∀ j, ownOp ops t = some j → (j < i ∧ L.getD j false = true) ∨ (i ≤ j ∧ L.getD j false = false) := by
    intro t ht j hj
    rcases hok.look i o him ho t ht j hj with ⟨h1, h2⟩ | ⟨h1, h2⟩
    · exact .inl ⟨h1, hdep j h2⟩
    · refine .inr ⟨h1, ?_⟩
      rcases h2 with rfl | ⟨o', ho', hw⟩
      · exact hunD
      · cases hb : L.getD j false with
        | false => rfl
        | true =>
          exfalso
          have := hcl j o' i ho' hb hw
          rw [hunD] at this
          cases this
  have hexec := fun σ => exec_agree (σ := σ) (a := a) (hok.sel i o him ho) hl
  have hwant := fun σ => wanted_agree (σ := σ) (a := a) hl
  have hput := fun σ => layA_put (L := L) (σ := σ) (a := a) ho (by omega) (fun d hdd => hok.hd i o d him ho hdd)
  have hfinA : ∀ σ, finA σ (ops.toList.take i) 0 a = layA ops σ (firstB ops.size i) a := fun σ => finA_take (a := a) (σ := σ) (fun i' o' d hi' => hok.hd i' o' d (by omega)) (by omega)
  have hclosed : Closed E L := by
    intro k e hk hEk j hj
    have hkm : k < m := by have := (Array.getElem?_eq_some_iff.1 hEk).1; omega
    have hko : k < ops.size := by have := hok.le; omega
    exact reach_in hcl (k + 1) k _ (Array.getElem?_eq_getElem hko) (fun j hj => hcl k _ j (Array.getElem?_eq_getElem hko) hk hj) (hok.deps k _ e hkm (Array.getElem?_eq_getElem hko) hEk j hj)
  have hfacts : Facts E g o w' := fun j ds sh R hj hEj => hW.fact j ds sh R (hdep j hj) hEj
  unfold Owed at hO
  rw [ho, hE] at hO
  simp only at hO
  have hO := hO g w' hW.below hW.grow hfacts
  unfold wpOp
  rw [ho]
  simp only
  cases e with
  | off =>
    simp only at hO
    rw [hfinA, ← hwant] at hO
    rw [hO]
    simp only [Bool.false_eq_true, if_false]
    have es : Eff.slot E g i = undef := by unfold Eff.slot; rw [hE]
    have h1 := hput (Eff.slot E g)
    rw [es] at h1
    exact ⟨g, h1, hW.up hT (Below.refl _ _) (fun j ds cs h => by rw [hE] at h; cases h) (fun ds cs t h => by rw [hE] at h; cases h) (fun ds sh R h => by rw [hE] at h; cases h)⟩
  | val ds v =>
    obtain ⟨hw, hv⟩ := hO
    rw [hfinA, ← hwant] at hw
    rw [hfinA, ← hexec] at hv
    rw [hw]
    simp only [if_true]
    left
    have es : Eff.slot E g i = v (ds.map (Eff.env E g)) := by unfold Eff.slot; rw [hE]
    have h1 := hput (Eff.slot E g)
    rw [es] at h1
    unfold Oper.wp
    generalize (execOp (layA ops (Eff.slot E g) L a).eval o).run P w' = r at hv
    cases r with
    | halt x w1 => exact hv.elim
    | ok n w1 =>
      cases n with
      | value u =>
        obtain ⟨rfl, rfl⟩ := hv
        rw [Oper.upon_value]
        exact ⟨g, h1, hW.up hT (Below.refl _ _) (fun j ds cs h => by rw [hE] at h; cases h) (fun ds cs t h => by rw [hE] at h; cases h) (fun ds sh R h => by rw [hE] at h; cases h)⟩
      | enter f args =>
        obtain ⟨rfl, hv⟩ := hv
        rw [Oper.upon_enter]
        refine hv.mono ?_
        rintro e w2 ⟨rfl, hb⟩
        exact ⟨g, h1, hW.up hT hb (fun j ds cs h => by rw [hE] at h; cases h) (fun ds cs t h => by rw [hE] at h; cases h) (fun ds sh R h => by rw [hE] at h; cases h)⟩
      | _ => exact hv.elim
  | ex ds sh R =>
    obtain ⟨hw, hv⟩ := hO
    rw [hfinA, ← hwant] at hw
    rw [hfinA, ← hexec] at hv
    rw [hw]
    simp only [if_true]
    left
    have fin : ∀ v w1, R (ds.map (Eff.env E g)) v w1 → Below w'.heap.size w' w1 → EffI T ops E (L.setIfInBounds i true) a w0 ((layA ops (Eff.slot E g) L a).put o.dst (sh v)) w1 := by
      intro v w1 hR hb
      obtain ⟨g', hg'⟩ : ∃ g' : Got, g' = { γ := g.γ, δ := fun k => if k = i then v else g.δ k } := ⟨_, rfl⟩
      have hag : Agree L g g' := fun j hj => by
        have : j ≠ i := by rintro rfl; rw [hunD] at hj; cases hj
        rw [hg']
        exact ⟨rfl, (if_neg this).symm⟩
      have es : Eff.slot E g' i = sh v := by unfold Eff.slot; rw [hE, hg']; simp
      have h1 := hput (Eff.slot E g')
      rw [es, ← layA_congr (fun j hj => slot_congr hag hclosed hj)] at h1
      refine ⟨g', h1, (hW.congr hag hclosed).up hT hb (fun j ds cs h => by rw [hE] at h; cases h) (fun ds cs t h => by rw [hE] at h; cases h) (fun ds' sh' R' h => ?_)⟩
      rw [hE] at h
      cases h
      have : g'.δ i = v := by rw [hg']; simp
      rw [this, ← envs_congr (ds := ds) hag (fun j hj => reach_in hcl (i + 1) i o ho hdep (hok.deps i o _ him ho hE j hj))]
      exact hR
    unfold Oper.wp
    generalize (execOp (layA ops (Eff.slot E g) L a).eval o).run P w' = r at hv
    cases r with
    | halt x w1 => exact hv.elim
    | ok n w1 =>
      cases n with
      | value u =>
        obtain ⟨d, rfl, h1, h2⟩ := hv
        rw [Oper.upon_value]
        exact fin d w1 h1 h2
      | enter f args =>
        obtain ⟨rfl, hv⟩ := hv
        rw [Oper.upon_enter]
        refine hv.mono ?_
        rintro e w2 ⟨v, rfl, hb, hR⟩
        exact fin v w2 hR hb
      | _ => exact hv.elim
  | new ds cs t =>
    obtain ⟨hw, hv⟩ := hO
    rw [hfinA, ← hwant] at hw
    rw [hfinA, ← hexec] at hv
    rw [hw]
    simp only [if_true]
    left
    obtain ⟨g', hg'⟩ : ∃ g' : Got, g' = { γ := fun k => if k = i then w'.heap.size else g.γ k, δ := g.δ } := ⟨_, rfl⟩
    have hag : Agree L g g' := fun j hj => by
      have : j ≠ i := by rintro rfl; rw [hunD] at hj; cases hj
      rw [hg']
      exact ⟨(if_neg this).symm, rfl⟩
    have hγ : g'.γ i = w'.heap.size := by rw [hg']; simp
    have es : Eff.slot E g' i = .pointer (some ⟨w'.heap.size, 0, none⟩) := by unfold Eff.slot; rw [hE, ← hγ]
    have h1 := hput (Eff.slot E g')
    rw [es, ← layA_congr (fun j hj => slot_congr hag hclosed hj)] at h1
    have hev : ds.map (Eff.env E g) = ds.map (Eff.env E g') := envs_congr hag (fun j hj => reach_in hcl (i + 1) i o ho hdep (hok.deps i o _ him ho hE j hj))
    have hW' : EffW T E (L.setIfInBounds i true) g' w0 (w'.alloc (.cells (cs (ds.map (Eff.env E g'))) t)) := by
      refine (hW.congr hag hclosed).fresh hT hE hun (fun k hk => ?_) hγ
      cases hb : L.getD k false with
      | false => rfl
      | true =>
        exfalso
        obtain ⟨ds', cs', hEm⟩ := putOp_some hk
        have hmlt : k < m := by have := (Array.getElem?_eq_some_iff.1 hEm).1; omega
        have hko : k < ops.size := by have := hok.le; omega
        have := hcl k _ i (Array.getElem?_eq_getElem hko) hb (hok.put k _ i ds' cs' hmlt (Array.getElem?_eq_getElem hko) hEm).1
        rw [hunD] at this
        cases this
    unfold Oper.wp
    generalize (execOp (layA ops (Eff.slot E g) L a).eval o).run P w' = r at hv
    cases r with
    | halt x w1 => exact hv.elim
    | ok n w1 =>
      cases n with
      | value u =>
        obtain ⟨rfl, rfl⟩ := hv
        rw [Oper.upon_value]
        rw [hev]
        exact ⟨g', h1, hW'⟩
      | _ => exact hv.elim
  | put j ds cs =>
    obtain ⟨hw, hv⟩ := hO
    rw [hfinA, ← hwant] at hw
    rw [hfinA, ← hexec] at hv
    rw [hw]
    simp only [if_true]
    left
    obtain ⟨hwj, ⟨ds0, cs0, t, hEj⟩, hpo⟩ := hok.put i o j ds cs him ho hE
    have hjL := hdep j hwj
    have hcell := (hW.blk j ds0 cs0 t hjL hEj).2.2
    have hcont : Eff.contL E g L j = Eff.cs0 E g j := by
      unfold Eff.contL
      rw [hpo]
      simp only
      rw [hunD]
      rfl
    rw [hcont] at hcell
    have hv := hv ds0 cs0 t hEj hcell
    have es : Eff.slot E g i = undef := by unfold Eff.slot; rw [hE]
    have h1 := hput (Eff.slot E g)
    rw [es] at h1
    unfold Oper.wp
    generalize (execOp (layA ops (Eff.slot E g) L a).eval o).run P w' = r at hv
    cases r with
    | halt x w1 => exact hv.elim
    | ok n w1 =>
      cases n with
      | skip =>
        obtain ⟨ho1, hn1⟩ := hv
        rw [Oper.upon_skip]
        exact ⟨g, h1, hW.over hT (by omega) hE hEj hjL hpo ho1 hn1⟩
      | _ => exact hv.elim

theorem replicate_getD (n i : Nat) : (Array.replicate n false).getD i false = false := by
  simp [Array.getElem?_replicate]
  split <;> simp

theorem eff_start {T : List TypeId} {ops : Array Oper} {E : Array Eff} {a : Act} {w0 : World} : EffI T ops E (Array.replicate ops.size false) a w0 a w0 :=
  ⟨⟨fun _ => 0, fun _ => dat0⟩, layA_none.symm, Below.refl _ _, Grow.refl _ _, fun i ds cs t h => (by rw [replicate_getD] at h; cases h), fun i j ds cs t ds' cs' t' h => (by rw [replicate_getD] at h; cases h), fun i ds sh R h => (by rw [replicate_getD] at h; cases h)⟩

/-- What is known behind the first m. -/
def EffEnd (T : List TypeId) (ops : Array Oper) (E : Array Eff) (m : Nat) (a : Act) (w0 : World) (a' : Act) (w' : World) : Prop :=
  ∃ g, a' = finA (Eff.slot E g) (ops.toList.take m) 0 a ∧ Below w0.heap.size w0 w' ∧ Grow T w0 w' ∧
    (∀ i ds cs t, E[i]? = some (.new ds cs t) → w0.heap.size ≤ g.γ i ∧ g.γ i < w'.heap.size ∧ w'.heap[g.γ i]? = some (.cells (Eff.cont E g i) t (0, 0))) ∧
    (∀ i j ds cs t ds' cs' t', E[i]? = some (.new ds cs t) → E[j]? = some (.new ds' cs' t') → i ≠ j → g.γ i ≠ g.γ j) ∧
    (∀ i ds sh (R : List Dat → Dat → World → Prop), E[i]? = some (Eff.ex ds sh R) → R (ds.map (Eff.env E g)) (g.δ i) w')

theorem EffI.end_ {T : List TypeId} {ops : Array Oper} {E : Array Eff} {m : Nat} (hok : EffOk ops E m) {L : Array Bool} {a a' : Act} {w0 w' : World} (hI : EffI T ops E L a w0 a' w') (hL : L = firstB ops.size m) : EffEnd T ops E m a w0 a' w' := by
  subst hL
  obtain ⟨g, rfl, hW⟩ := hI
  have hlt : ∀ (i : Nat) e, E[i]? = some e → i < m := fun i e h => by have := (Array.getElem?_eq_some_iff.1 h).1; have := hok.sz; omega
  have hall : ∀ (i : Nat) e, E[i]? = some e → (firstB ops.size m).getD i false = true := fun i e h => by
    have h1 := hlt i e h
    have h2 := hok.le
    rw [firstB_get (by omega)]
    exact decide_eq_true h1
  refine ⟨g, (finA_take hok.hd hok.le).symm, hW.below, hW.grow, fun i ds cs t h => ?_, fun i j ds cs t ds' cs' t' h1 h2 h3 => hW.ne i j ds cs t ds' cs' t' (hall i _ h1) (hall j _ h2) h1 h2 h3, fun i ds sh R h => hW.fact i ds sh R (hall i _ h) h⟩
  obtain ⟨b1, b2, b3⟩ := hW.blk i ds cs t (hall i _ h) h
  refine ⟨b1, b2, ?_⟩
  rw [b3]
  have : Eff.contL E g (firstB ops.size m) i = Eff.cont E g i := by
    unfold Eff.contL Eff.cont
    cases hp : putOp E i with
    | none => rfl
    | some k =>
      obtain ⟨ds', cs', hk⟩ := putOp_some hp
      simp only
      rw [hall k _ hk, if_pos rfl]
  rw [this]

/-- In whatever order: the first m come up, then the rest. -/
theorem wpAny_eff {P : Program} {T : List TypeId} {ops : Array Oper} {Q : Exit → Act → World → Prop} {a : Act} {w0 : World} {E : Array Eff} {m : Nat} (hT : EffT T E) (hok : EffOk ops E m) (hO : ∀ i, i < m → Owed P T ops E a w0 i)
    (hfin : ∀ a' w', EffEnd T ops E m a w0 a' w' → wpAny P .any ops Q (ops.size - m) (firstB ops.size m) a' w') :
    wpAny P .any ops Q ops.size (Array.replicate ops.size false) a w0 := by
  have hle := hok.le
  have main : ∀ (k : Nat) (L : Array Bool) (a' : Act) (w' : World), L.size = ops.size → L.toList.countP (fun b => !b) = k + (ops.size - m) → (∀ i, m ≤ i → L.getD i false = false) →
      (∀ i o j, ops[i]? = some o → L.getD i false = true → waitsFor o j = true → L.getD j false = true) → EffI T ops E L a w0 a' w' →
      wpAny P .any ops Q (k + (ops.size - m)) L a' w' := by
    intro k
    induction k with
    | zero =>
      intro L a' w' hL hc hge hcl hI
      have eL : L = firstB ops.size m := eq_firstB hL hge (by omega)
      rw [Nat.zero_add, eL]
      exact hfin a' w' (hI.end_ hok eL)
    | succ k ih =>
      intro L a' w' hL hc hge hcl hI
      rw [show k + 1 + (ops.size - m) = k + (ops.size - m) + 1 from by omega] at hc ⊢
      have hsome : ∃ i, i < m ∧ L.getD i false = false ∧ ∀ j, j < i → L.getD j false = true := least_false hL hle hge (by omega)
      refine ⟨fun hr => ?_, fun i hi => ?_⟩
      · exfalso
        obtain ⟨i, hi, hun, hmin⟩ := hsome
        have hmem : i ∈ Region.ready .any ops L := by
          refine mem_ready.2 ⟨?_, ops[i]'(by omega), Array.getElem?_eq_getElem (by omega), fun e he _ => ?_⟩
          · have hi2 : i < L.size := by omega
            simpa [hi2] using hun
          · exact hmin _ (hok.down i _ (Array.getElem?_eq_getElem (by omega)) e he (by assumption))
        rw [hr] at hmem
        cases hmem
      · obtain ⟨hun, o, ho, hdeps⟩ := mem_ready.1 hi
        have hlt : i < ops.size := (Array.getElem?_eq_some_iff.1 ho).1
        have hdep : ∀ j, waitsFor o j = true → L.getD j false = true := by
          intro j hj
          unfold waitsFor at hj
          rw [Array.any_eq_true] at hj
          obtain ⟨k, hk, hj⟩ := hj
          simp only [Bool.and_eq_true, beq_iff_eq] at hj
          rw [← hj.2]
          exact hdeps _ (Array.getElem_mem hk) hj.1
        have him : i < m := by
          rcases Nat.lt_or_ge i m with h | h
          · exact h
          · exfalso
            obtain ⟨j, hj, hjun, _⟩ := hsome
            rw [hdep j (hok.rest i o h ho j hj)] at hjun
            cases hjun
        have hunE : L[i]? = some false := by
          rw [Array.getElem?_eq_getElem (by omega)]
          simp [hL, hlt] at hun
          rw [hun]
        refine wpOp_mono (fun a'' w'' h => ?_) (eff_step hT hok him (hO i him) hL hun ho hdep hcl hI)
        refine ih _ a'' w'' (by simpa using hL) (by have := countP_set hunE; omega) ?_ ?_ h
        · intro j hj
          rw [getD_set_ne false (by omega)]
          exact hge j hj
        · intro i' o' j ho' hl hw
          by_cases e : i = i'
          · subst e
            rw [ho] at ho'
            cases ho'
            exact getD_set_true (hdep j hw)
          · rw [getD_set_ne false e] at hl
            exact getD_set_true (hcl i' o' j ho' hl hw)
  have h0 := main m (Array.replicate ops.size false) a w0 (by simp) (by rw [Array.toList_replicate, List.countP_replicate]; simp; omega) (fun i _ => replicate_getD _ _) (by intro i o j _ h; rw [replicate_getD] at h; cases h) eff_start
  rwa [show m + (ops.size - m) = ops.size from by omega] at h0

/-- In the text's order. -/
theorem wpOps_eff {P : Program} {T : List TypeId} {ops : Array Oper} {Q : Exit → Act → World → Prop} {a : Act} {w0 : World} {E : Array Eff} {m : Nat} (hT : EffT T E) (hok : EffOk ops E m) (hO : ∀ i, i < m → Owed P T ops E a w0 i)
    (hfin : ∀ a' w', EffEnd T ops E m a w0 a' w' → wpOps P ops Q (List.range' m (ops.size - m)) a' w') :
    wpOps P ops Q (List.range ops.size) a w0 := by
  have hle := hok.le
  have main : ∀ (k : Nat) (a' : Act) (w' : World), k ≤ m → EffI T ops E (firstB ops.size (m - k)) a w0 a' w' → wpOps P ops Q (List.range' (m - k) (k + (ops.size - m))) a' w' := by
    intro k
    induction k with
    | zero =>
      intro a' w' _ hI
      rw [Nat.zero_add]
      exact hfin a' w' (hI.end_ hok rfl)
    | succ k ih =>
      intro a' w' hk hI
      rw [show k + 1 + (ops.size - m) = k + (ops.size - m) + 1 from by omega, List.range'_succ, wpOps_cons]
      have hlt : m - (k + 1) < ops.size := by omega
      have hdep : ∀ i o j, i ≤ m - (k + 1) → ops[i]? = some o → waitsFor o j = true → (firstB ops.size (m - (k + 1))).getD j false = true ∨ j ≥ i := by
        intro i o j hi ho hw
        unfold waitsFor at hw
        rw [Array.any_eq_true] at hw
        obtain ⟨e, he, hw⟩ := hw
        simp only [Bool.and_eq_true, beq_iff_eq] at hw
        have := hok.down i o ho _ (Array.getElem_mem he) hw.1
        rw [hw.2] at this
        left
        rw [firstB_get (by omega)]
        exact decide_eq_true (by omega)
      have hdown : ∀ i o j, i < m → ops[i]? = some o → waitsFor o j = true → j < i := by
        intro i o j hi ho hw
        unfold waitsFor at hw
        rw [Array.any_eq_true] at hw
        obtain ⟨e, he, hw⟩ := hw
        simp only [Bool.and_eq_true, beq_iff_eq] at hw
        have := hok.down i o ho _ (Array.getElem_mem he) hw.1
        rwa [hw.2] at this
      have hst := eff_step (Q := Q) hT hok (i := m - (k + 1)) (by omega) (hO _ (by omega)) (L := firstB ops.size (m - (k + 1))) (by simp [firstB]) (by rw [firstB_get hlt]; simp) (Array.getElem?_eq_getElem hlt)
        (by
          intro j hw
          have := hdown _ _ j (by omega) (Array.getElem?_eq_getElem hlt) hw
          rw [firstB_get (by omega)]
          exact decide_eq_true this)
        (by
          intro i o j ho hl hw
          have hio : i < ops.size := (Array.getElem?_eq_some_iff.1 ho).1
          rw [firstB_get hio] at hl
          have h2 := of_decide_eq_true hl
          have h1 := hdown i o j (by omega) ho hw
          rw [firstB_get (by omega)]
          exact decide_eq_true (by omega))
        hI
      refine wpOp_mono (fun a'' w'' h => ?_) hst
      rw [firstB_set hlt, show m - (k + 1) + 1 = m - k from by omega] at h
      rw [show m - (k + 1) + 1 = m - k from by omega]
      exact ih a'' w'' (by omega) h
  have h0 := main m a w0 (Nat.le_refl _) (by
    rw [Nat.sub_self, show firstB ops.size 0 = Array.replicate ops.size false from by apply Array.ext <;> simp [firstB]]
    exact eff_start)
  rw [Nat.sub_self, show m + (ops.size - m) = ops.size from by omega] at h0
  rwa [List.range_eq_range']

/-- THE LAW for a region that draws its order, all of it told. -/
theorem wp_region_eff {P : Program} {T : List TypeId} {ops : Array Oper} {Q : Exit → Act → World → Prop} {id : Nat} {a : Act} {w : World} (E : Array Eff) (hT : EffT T E) (hm : P.follows .mixedOrders = true) (hok : Eff.ok ops E = true) (hs : E.size = ops.size)
    (hO : ∀ i, i < E.size → Owed P T ops E a w.drew i) (hfin : ∀ a' w', EffEnd T ops E E.size a w.drew a' w' → Q .normal a' w') :
    (Code.region id ops true).wp P Q a w := by
  refine wp_region_any hm (wpAny_eff (w0 := w.drew) hT (EffOk.of hok) hO fun a' w' h => ?_)
  rw [hs, Nat.sub_self]
  refine ⟨?_, hfin a' w' h⟩
  cases hr : Region.ready .any ops (firstB ops.size ops.size) with
  | nil => rfl
  | cons i rs =>
    exfalso
    have : i ∈ Region.ready .any ops (firstB ops.size ops.size) := by rw [hr]; exact List.mem_cons_self
    obtain ⟨h1, o, ho, _⟩ := mem_ready.1 this
    have hi : i < ops.size := (Array.getElem?_eq_some_iff.1 ho).1
    rw [firstB_get hi] at h1
    simp at h1
    omega

/-- THE LAW for a region that draws its order; the last operation is left. -/
theorem wp_region_eff_tail {P : Program} {T : List TypeId} {ops : Array Oper} {Q : Exit → Act → World → Prop} {id : Nat} {a : Act} {w : World} (E : Array Eff) (hT : EffT T E) (hm : P.follows .mixedOrders = true) (hok : Eff.ok ops E = true) (hs : E.size + 1 = ops.size)
    (hO : ∀ i, i < E.size → Owed P T ops E a w.drew i) (hfin : ∀ a' w', EffEnd T ops E E.size a w.drew a' w' → wpOp P ops Q E.size (Q .normal) a' w') :
    (Code.region id ops true).wp P Q a w := by
  refine wp_region_any hm (wpAny_eff (w0 := w.drew) hT (EffOk.of hok) hO fun a' w' h => ?_)
  rw [← hs, show E.size + 1 - E.size = 0 + 1 from by omega]
  have hr0 : Region.ready .any ops (firstB (E.size + 1) (E.size + 1)) = [] := by
    cases hr : Region.ready .any ops (firstB (E.size + 1) (E.size + 1)) with
    | nil => rfl
    | cons i rs =>
      exfalso
      have : i ∈ Region.ready .any ops (firstB (E.size + 1) (E.size + 1)) := by rw [hr]; exact List.mem_cons_self
      obtain ⟨h1, o, ho, _⟩ := mem_ready.1 this
      have hi : i < ops.size := (Array.getElem?_eq_some_iff.1 ho).1
      rw [firstB_get (by omega)] at h1
      simp at h1
      omega
  have hmem : E.size ∈ Region.ready .any ops (firstB (E.size + 1) E.size) := by
    refine mem_ready.2 ⟨by rw [firstB_get (by omega)]; simp, ops[E.size]'(by omega), Array.getElem?_eq_getElem (by omega), fun e he hb => ?_⟩
    have h2 := (EffOk.of hok).down E.size _ (Array.getElem?_eq_getElem (by omega)) e he hb
    rw [firstB_get (by omega)]
    exact decide_eq_true h2
  refine ⟨fun hr => (by rw [hr] at hmem; cases hmem), fun i hi => ?_⟩
  obtain ⟨hun, o, ho, hdeps⟩ := mem_ready.1 hi
  have hlt : i < ops.size := (Array.getElem?_eq_some_iff.1 ho).1
  have hi : i = E.size := by
    rw [firstB_get (by omega)] at hun
    simp at hun
    omega
  subst hi
  refine wpOp_mono (fun a'' w'' h2 => ?_) (hfin a' w' h)
  rw [firstB_set (by omega)]
  exact ⟨hr0, h2⟩

/-- THE LAW for a region in the text's order. -/
theorem wp_region_text {P : Program} {T : List TypeId} {ops : Array Oper} {Q : Exit → Act → World → Prop} {id : Nat} {a : Act} {w : World} (E : Array Eff) (hT : EffT T E) (hok : Eff.ok ops E = true) (hs : E.size = ops.size)
    (hO : ∀ i, i < E.size → Owed P T ops E a w i) (hfin : ∀ a' w', EffEnd T ops E E.size a w a' w' → Q .normal a' w') :
    (Code.region id ops false).wp P Q a w := by
  refine wp_region (wpOps_eff hT (EffOk.of hok) hO fun a' w' h => ?_)
  rw [hs, Nat.sub_self]
  exact hfin a' w' h

theorem wp_region_text_tail {P : Program} {T : List TypeId} {ops : Array Oper} {Q : Exit → Act → World → Prop} {id : Nat} {a : Act} {w : World} (E : Array Eff) (hT : EffT T E) (hok : Eff.ok ops E = true) (hs : E.size + 1 = ops.size)
    (hO : ∀ i, i < E.size → Owed P T ops E a w i) (hfin : ∀ a' w', EffEnd T ops E E.size a w a' w' → wpOp P ops Q E.size (Q .normal) a' w') :
    (Code.region id ops false).wp P Q a w := by
  refine wp_region (wpOps_eff hT (EffOk.of hok) hO fun a' w' h => ?_)
  rw [← hs, show E.size + 1 - E.size = 1 from by omega]
  show wpOps P ops Q [E.size] a' w'
  rw [wpOps_cons]
  exact wpOp_mono (fun _ _ h => h) (hfin a' w' h)
end Go.Proofs.YtjokcbjahidckaaGreat
