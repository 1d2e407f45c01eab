/- Texts put together: Num, Mem, Bits, Limb1, Limb2, Div64, Limb3, Limb4, Limb5, Mont1, Mont2, Mont3, Mont4. Conditions: those of each part. -/
import Derived.Test.YtjokcbjahidckaaGreatProg
import Derived.WalkKit
import Derived.WalkSpells
import Derived.WalkLawsBesides
import Derived.Handy
import Derived.Lib.Hide
import Derived.Laws.Externs
import Derived.Laws.BitsAllLaws
import Derived.Deep.OwnRows
import Derived.Shelf.Small.Bits
import Derived.Shelf.Strconv.Itoa0
import Derived.Shelf.Bits.Mul64
import Derived.BigRegion
import Derived.BigQuiet
import Derived.Deep.RegionWith
import Derived.Deep.QuietTactic
import Derived.Laws.CopyOwn
import Derived.Laws.AppendOwn
import Derived.Laws.AppendOwnNone
import Derived.Laws.NewBlocks
import Derived.Deep.MidRow
import Derived.StillTailTactics
import Derived.IntWalk
set_option linter.unusedVariables false
/-! Plain facts on numbers written in digits to a base B, the lowest digit first. No condition. -/
namespace Go.Proofs.YtjokcbjahidckaaGreat

/-- The number of a list of digits, the lowest first. -/
def ofD (B : Nat) : List Nat → Nat
  | [] => 0
  | d :: t => d + B * ofD B t

/-- 2 to the power 64, 32. -/
def B64 : Nat := 18446744073709551616
def B32 : Nat := 4294967296
theorem B64_eq : B64 = 18446744073709551616 := rfl
theorem B32_eq : B32 = 4294967296 := rfl
theorem B64_256 : B64 = 256 ^ 8 := by decide
theorem B64_2 : B64 = 2 ^ 64 := by decide
theorem B32_256 : B32 = 256 ^ 4 := by decide
theorem B32_2 : B32 = 2 ^ 32 := by decide
theorem B64_pos : 1 < B64 := by decide
theorem B32_pos : 1 < B32 := by decide

/-- The lowest k digits. -/
def digs (B : Nat) : Nat → Nat → List Nat
  | 0, _ => []
  | k + 1, n => n % B :: digs B k (n / B)

/-- How many of the first n places are left when zeros at the end are struck. -/
def trimLen (xs : List Nat) : Nat → Nat
  | 0 => 0
  | n + 1 => if xs.getD n 0 = 0 then trimLen xs n else n + 1

def trimD (xs : List Nat) : List Nat := xs.take (trimLen xs xs.length)

/-- All digits below B. -/
def Digs (B : Nat) (xs : List Nat) : Prop := ∀ d ∈ xs, d < B

/-- The digits of a number, without zeros at the end. -/
def dig (B n : Nat) : List Nat := trimD (digs B n n)

theorem ofD_nil (B : Nat) : ofD B [] = 0 := rfl
theorem ofD_cons (B d : Nat) (t : List Nat) : ofD B (d :: t) = d + B * ofD B t := rfl

theorem ofD_append (B : Nat) : ∀ (xs ys : List Nat), ofD B (xs ++ ys) = ofD B xs + B ^ xs.length * ofD B ys
  | [], ys => by simp [ofD]
  | d :: t, ys => by
    show d + B * ofD B (t ++ ys) = d + B * ofD B t + B ^ (t.length + 1) * ofD B ys
    rw [ofD_append B t ys, Nat.pow_succ, Nat.mul_add, Nat.mul_comm (B ^ t.length) B, Nat.mul_assoc]; omega

theorem Digs.tail {B d : Nat} {t : List Nat} (h : Digs B (d :: t)) : Digs B t := fun x hx => h x (List.mem_cons_of_mem _ hx)
theorem Digs.head {B d : Nat} {t : List Nat} (h : Digs B (d :: t)) : d < B := h d (List.mem_cons_self ..)
theorem Digs.nil {B : Nat} : Digs B [] := fun _ h => by cases h
theorem Digs.cons {B d : Nat} {t : List Nat} (h : d < B) (k : Digs B t) : Digs B (d :: t) := fun x hx => by
  rcases List.mem_cons.1 hx with rfl | hx
  · exact h
  · exact k x hx
theorem Digs.append {B : Nat} {xs ys : List Nat} (h : Digs B xs) (k : Digs B ys) : Digs B (xs ++ ys) := fun x hx => by
  rcases List.mem_append.1 hx with hx | hx
  · exact h x hx
  · exact k x hx
theorem Digs.take {B : Nat} {xs : List Nat} (h : Digs B xs) (n : Nat) : Digs B (xs.take n) := fun x hx => h x (List.mem_of_mem_take hx)
theorem Digs.drop {B : Nat} {xs : List Nat} (h : Digs B xs) (n : Nat) : Digs B (xs.drop n) := fun x hx => h x (List.mem_of_mem_drop hx)
theorem Digs.getD {B : Nat} {xs : List Nat} (h : Digs B xs) (hB : 0 < B) (i : Nat) : xs.getD i 0 < B := by
  rw [List.getD_eq_getElem?_getD]
  rcases hx : xs[i]? with _ | x
  · exact hB
  · exact h x (List.mem_of_getElem? hx)
theorem Digs.set {B : Nat} {xs : List Nat} (h : Digs B xs) (i : Nat) {v : Nat} (hv : v < B) : Digs B (xs.set i v) := fun x hx => by
  rcases List.mem_or_eq_of_mem_set hx with hx | rfl
  · exact h x hx
  · exact hv
theorem Digs.replicate {B : Nat} (hB : 0 < B) (n : Nat) : Digs B (List.replicate n 0) := fun x hx => by
  have := List.eq_of_mem_replicate hx; omega

theorem ofD_lt {B : Nat} : ∀ {xs : List Nat}, Digs B xs → ofD B xs < B ^ xs.length
  | [], _ => by simp [ofD]
  | d :: t, h => by
    have ih := ofD_lt h.tail
    have hd := h.head
    show d + B * ofD B t < B ^ (t.length + 1)
    have : B * (ofD B t + 1) ≤ B * B ^ t.length := Nat.mul_le_mul_left B ih
    rw [Nat.pow_succ, Nat.mul_comm (B ^ t.length) B]
    rw [Nat.mul_add, Nat.mul_one] at this
    omega

theorem length_digs (B : Nat) : ∀ (k n : Nat), (digs B k n).length = k
  | 0, _ => rfl
  | k + 1, n => by simp [digs, length_digs B k]

theorem Digs.digs {B : Nat} (hB : 0 < B) : ∀ (k n : Nat), Digs B (digs B k n)
  | 0, _ => Digs.nil
  | k + 1, n => Digs.cons (Nat.mod_lt _ hB) (Digs.digs hB k (n / B))

theorem ofD_digs {B : Nat} : ∀ (k n : Nat), ofD B (digs B k n) = n % B ^ k
  | 0, n => by simp [digs, ofD, Nat.mod_one]
  | k + 1, n => by
    show n % B + B * ofD B (YtjokcbjahidckaaGreat.digs B k (n / B)) = _
    rw [ofD_digs k, Nat.pow_succ, Nat.mul_comm (B ^ k) B, Nat.mod_mul]

theorem digs_ofD {B : Nat} (hB : 0 < B) : ∀ {xs : List Nat}, Digs B xs → digs B xs.length (ofD B xs) = xs
  | [], _ => rfl
  | d :: t, h => by
    have hd := h.head
    show (d + B * ofD B t) % B :: YtjokcbjahidckaaGreat.digs B t.length ((d + B * ofD B t) / B) = d :: t
    rw [Nat.add_mul_mod_self_left, Nat.mod_eq_of_lt hd, Nat.add_mul_div_left _ _ hB, Nat.div_eq_of_lt hd, Nat.zero_add, digs_ofD hB h.tail]

theorem ofD_inj {B : Nat} (hB : 0 < B) {xs ys : List Nat} (hx : Digs B xs) (hy : Digs B ys) (hl : xs.length = ys.length) (h : ofD B xs = ofD B ys) : xs = ys := by
  rw [← digs_ofD hB hx, ← digs_ofD hB hy, hl, h]

theorem ofD_replicate (B n : Nat) : ofD B (List.replicate n 0) = 0 := by
  induction n with
  | zero => rfl
  | succ n ih => rw [List.replicate_succ, ofD_cons, ih]; simp

theorem getD_digs {B : Nat} : ∀ (k n i : Nat), i < k → (digs B k n).getD i 0 = n / B ^ i % B
  | 0, _, _, h => by omega
  | k + 1, n, 0, _ => by simp [digs]
  | k + 1, n, i + 1, h => by
    show (YtjokcbjahidckaaGreat.digs B k (n / B)).getD i 0 = _
    rw [getD_digs k (n / B) i (by omega), Nat.div_div_eq_div_mul, Nat.pow_succ, Nat.mul_comm B]

theorem getD_ofD {B : Nat} (hB : 0 < B) {xs : List Nat} (h : Digs B xs) {i : Nat} (hi : i < xs.length) : xs.getD i 0 = ofD B xs / B ^ i % B := by
  rw [← getD_digs xs.length (ofD B xs) i hi, digs_ofD hB h]

/-! ### Zeros at the end -/
theorem trimLen_le (xs : List Nat) : ∀ n, trimLen xs n ≤ n
  | 0 => Nat.le_refl _
  | n + 1 => by
    simp only [trimLen]
    split
    · have := trimLen_le xs n; omega
    · exact Nat.le_refl _

theorem trimLen_zero (xs : List Nat) : ∀ n i, trimLen xs n ≤ i → i < n → xs.getD i 0 = 0
  | 0, _, _, h => by omega
  | n + 1, i, h1, h2 => by
    simp only [trimLen] at h1
    split at h1
    · by_cases hi : i = n
      · subst hi; assumption
      · exact trimLen_zero xs n i h1 (by omega)
    · omega

theorem trimLen_last (xs : List Nat) : ∀ n, 0 < trimLen xs n → xs.getD (trimLen xs n - 1) 0 ≠ 0
  | 0, h => by simp [trimLen] at h
  | n + 1, h => by
    simp only [trimLen] at h ⊢
    split
    · rename_i h0; rw [if_pos h0] at h; exact trimLen_last xs n h
    · assumption

theorem length_trimD (xs : List Nat) : (trimD xs).length = trimLen xs xs.length := by
  have := trimLen_le xs xs.length
  simp [trimD]; omega

theorem length_trimD_le (xs : List Nat) : (trimD xs).length ≤ xs.length := by rw [length_trimD]; exact trimLen_le _ _

theorem trimD_zeros (xs : List Nat) : xs = trimD xs ++ List.replicate (xs.length - (trimD xs).length) 0 := by
  have h := length_trimD xs
  have hle := trimLen_le xs xs.length
  apply List.ext_getElem
  · simp only [List.length_append, List.length_replicate]; omega
  · intro i h1 h2
    rw [List.getElem_append]
    split
    · simp [trimD]
    · rename_i hge
      rw [List.getElem_replicate]
      have := trimLen_zero xs xs.length i (by omega) h1
      rw [List.getD_eq_getElem?_getD, List.getElem?_eq_getElem h1] at this
      exact this

theorem ofD_trimD (B : Nat) (xs : List Nat) : ofD B (trimD xs) = ofD B xs := by
  have h := congrArg (ofD B) (trimD_zeros xs)
  rw [ofD_append, ofD_replicate, Nat.mul_zero, Nat.add_zero] at h
  exact h.symm

theorem Digs.trimD {B : Nat} {xs : List Nat} (h : Digs B xs) : Digs B (trimD xs) := h.take _

/-- The last digit of a trimmed list is not 0. -/
theorem trimD_last {xs : List Nat} (h : 0 < (trimD xs).length) : (trimD xs).getD ((trimD xs).length - 1) 0 ≠ 0 := by
  rw [length_trimD] at *
  have := trimLen_last xs xs.length h
  have hle := trimLen_le xs xs.length
  rw [List.getD_eq_getElem?_getD] at *
  unfold YtjokcbjahidckaaGreat.trimD
  rw [List.getElem?_take, if_pos (by omega)]
  exact this

theorem ofD_ge {B : Nat} (hB : 0 < B) : ∀ {xs : List Nat}, 0 < xs.length → xs.getD (xs.length - 1) 0 ≠ 0 → B ^ (xs.length - 1) ≤ ofD B xs
  | [], h, _ => by simp at h
  | [d], _, h => by simp [ofD] at *; omega
  | d :: e :: t, _, h => by
    have ih := ofD_ge (xs := e :: t) hB (by simp) (by simpa using h)
    simp only [List.length_cons, Nat.add_sub_cancel] at ih ⊢
    show B ^ (t.length + 1) ≤ d + B * ofD B (e :: t)
    rw [Nat.pow_succ, Nat.mul_comm]
    have := Nat.mul_le_mul_left B ih
    omega

/-- Trimmed digits are told by their number. -/
theorem trim_inj {B : Nat} (hB : 1 < B) {xs ys : List Nat} (hx : Digs B xs) (hy : Digs B ys)
    (lx : 0 < xs.length → xs.getD (xs.length - 1) 0 ≠ 0) (ly : 0 < ys.length → ys.getD (ys.length - 1) 0 ≠ 0) (h : ofD B xs = ofD B ys) : xs = ys := by
  have key : ∀ {xs ys : List Nat}, Digs B ys → (0 < xs.length → xs.getD (xs.length - 1) 0 ≠ 0) → ofD B xs = ofD B ys → xs.length ≤ ys.length := by
    intro xs ys hy lx h
    rcases Nat.lt_or_ge ys.length xs.length with hlt | hge
    · exfalso
      have h1 := ofD_ge (B := B) (xs := xs) (by omega) (by omega) (lx (by omega))
      have h2 := ofD_lt hy
      have h3 : B ^ ys.length ≤ B ^ (xs.length - 1) := Nat.pow_le_pow_right (by omega) (by omega)
      omega
    · exact hge
  have h1 := key hy lx h
  have h2 := key hx ly h.symm
  exact ofD_inj (by omega) hx hy (by omega) h

theorem lt_pow_self' {B : Nat} (hB : 1 < B) : ∀ n : Nat, n < B ^ n
  | 0 => by simp
  | n + 1 => by
    have := lt_pow_self' hB n
    rw [Nat.pow_succ]
    have : (n + 1) * 2 ≤ B ^ n * B := Nat.mul_le_mul this hB
    omega

theorem ofD_dig {B : Nat} (hB : 1 < B) (n : Nat) : ofD B (dig B n) = n := by
  unfold dig
  rw [ofD_trimD, ofD_digs, Nat.mod_eq_of_lt (lt_pow_self' hB n)]
theorem Digs.dig {B : Nat} (hB : 0 < B) (n : Nat) : Digs B (dig B n) := (Digs.digs hB n n).trimD
theorem dig_last {B n : Nat} (h : 0 < (dig B n).length) : (dig B n).getD ((dig B n).length - 1) 0 ≠ 0 := trimD_last h

/-- What is trimmed is the number's own digits. -/
theorem trimD_eq {B : Nat} (hB : 1 < B) {xs : List Nat} (h : Digs B xs) : trimD xs = dig B (ofD B xs) :=
  trim_inj hB h.trimD (Digs.dig (by omega) _) (fun k => trimD_last k) (fun k => dig_last k) (by rw [ofD_trimD, ofD_dig hB])

theorem trimD_dig {B : Nat} (hB : 1 < B) (n : Nat) : trimD (dig B n) = dig B n := by
  rw [trimD_eq hB (Digs.dig (by omega) n), ofD_dig hB]

theorem dig_eq {B : Nat} (hB : 1 < B) {xs : List Nat} (h : Digs B xs) (l : 0 < xs.length → xs.getD (xs.length - 1) 0 ≠ 0) : xs = dig B (ofD B xs) :=
  trim_inj hB h (Digs.dig (by omega) _) l (fun k => dig_last k) (by rw [ofD_dig hB])

theorem dig_zero (B : Nat) : dig B 0 = [] := rfl

theorem length_dig_le {B : Nat} (hB : 1 < B) {n k : Nat} (h : n < B ^ k) : (dig B n).length ≤ k := by
  rcases Nat.lt_or_ge k (dig B n).length with hlt | hge
  · exfalso
    have h1 := ofD_ge (B := B) (xs := dig B n) (by omega) (by omega) (dig_last (B := B) (n := n) (by omega))
    rw [ofD_dig hB] at h1
    have : B ^ k ≤ B ^ ((dig B n).length - 1) := Nat.pow_le_pow_right (by omega) (by omega)
    omega
  · exact hge

theorem lt_pow_dig {B : Nat} (hB : 1 < B) (n : Nat) : n < B ^ (dig B n).length := by
  have := ofD_lt (Digs.dig (B := B) (by omega) n)
  rwa [ofD_dig hB] at this

theorem dig_nil {B : Nat} (hB : 1 < B) {n : Nat} : (dig B n).length = 0 ↔ n = 0 := by
  constructor
  · intro h
    have := lt_pow_dig hB n
    rw [h] at this
    simpa using this
  · rintro rfl; rfl

/-- The digits, with zeros behind them. -/
theorem digs_eq {B : Nat} (hB : 1 < B) {n k : Nat} (h : n < B ^ k) : digs B k n = dig B n ++ List.replicate (k - (dig B n).length) 0 := by
  have hl := length_dig_le hB h
  refine ofD_inj (B := B) (by omega) (Digs.digs (by omega) _ _) ((Digs.dig (by omega) _).append (Digs.replicate (by omega) _)) ?_ ?_
  · rw [length_digs]; simp; omega
  · rw [ofD_digs, Nat.mod_eq_of_lt h, ofD_append, ofD_replicate, Nat.mul_zero, Nat.add_zero, ofD_dig hB]

theorem ofD_set {B : Nat} : ∀ {xs : List Nat} {i v : Nat}, i < xs.length → ofD B (xs.set i v) + B ^ i * xs.getD i 0 = ofD B xs + B ^ i * v
  | [], _, _, h => by simp at h
  | d :: t, 0, v, _ => by simp [ofD]; omega
  | d :: t, i + 1, v, h => by
    have ih := ofD_set (B := B) (xs := t) (i := i) (v := v) (by simpa using h)
    simp only [List.set_cons_succ, ofD_cons, List.getD_cons_succ]
    have e1 : B ^ (i + 1) * t.getD i 0 = B * (B ^ i * t.getD i 0) := by rw [Nat.pow_succ, Nat.mul_comm (B ^ i) B, Nat.mul_assoc]
    have e2 : B ^ (i + 1) * v = B * (B ^ i * v) := by rw [Nat.pow_succ, Nat.mul_comm (B ^ i) B, Nat.mul_assoc]
    rw [e1, e2]
    have := congrArg (B * ·) ih
    simp only [Nat.mul_add] at this
    omega

theorem take_succ_getD {xs : List Nat} {i : Nat} (h : i < xs.length) : xs.take (i + 1) = xs.take i ++ [xs.getD i 0] := by
  rw [List.take_succ_eq_append_getElem h, List.getD_eq_getElem?_getD, List.getElem?_eq_getElem h]; rfl

theorem ofD_take_succ {B : Nat} {xs : List Nat} {i : Nat} (h : i < xs.length) : ofD B (xs.take (i + 1)) = ofD B (xs.take i) + B ^ i * xs.getD i 0 := by
  rw [take_succ_getD h, ofD_append, List.length_take, Nat.min_eq_left (by omega)]
  simp [ofD]

theorem ofD_take_drop {B : Nat} (xs : List Nat) (i : Nat) (h : i ≤ xs.length) : ofD B xs = ofD B (xs.take i) + B ^ i * ofD B (xs.drop i) := by
  have := ofD_append B (xs.take i) (xs.drop i)
  rw [List.take_append_drop, List.length_take, Nat.min_eq_left h] at this
  exact this

theorem ofD_take_mod {B : Nat} (hB : 0 < B) {xs : List Nat} (hx : Digs B xs) (i : Nat) : ofD B (xs.take i) = ofD B xs % B ^ i := by
  rcases Nat.lt_or_ge xs.length i with h | h
  · rw [List.take_of_length_le (by omega), Nat.mod_eq_of_lt]
    exact Nat.lt_of_lt_of_le (ofD_lt hx) (Nat.pow_le_pow_right hB (by omega))
  · have h1 := ofD_take_drop (B := B) xs i h
    have h2 := ofD_lt (hx.take i)
    rw [List.length_take, Nat.min_eq_left h] at h2
    rw [h1, Nat.add_mul_mod_self_left, Nat.mod_eq_of_lt h2]

theorem ofD_drop_div {B : Nat} (hB : 0 < B) {xs : List Nat} (hx : Digs B xs) (i : Nat) : ofD B (xs.drop i) = ofD B xs / B ^ i := by
  have hp : 0 < B ^ i := Nat.pow_pos hB
  rcases Nat.lt_or_ge xs.length i with h | h
  · rw [List.drop_of_length_le (by omega), Nat.div_eq_of_lt]
    · rfl
    · exact Nat.lt_of_lt_of_le (ofD_lt hx) (Nat.pow_le_pow_right hB (by omega))
  · have h1 := ofD_take_drop (B := B) xs i h
    have h2 := ofD_lt (hx.take i)
    rw [List.length_take, Nat.min_eq_left h] at h2
    rw [h1, Nat.add_mul_div_left _ _ hp, Nat.div_eq_of_lt h2, Nat.zero_add]

/-- A number's limbs of 64 bits; of 32 bits; its bytes, the highest first. -/
def lm (n : Nat) : List Nat := dig B64 n
def wd (n : Nat) : List Nat := dig B32 n
/-- The number of bytes, the highest first. -/
def ofBE (bs : List Nat) : Nat := ofD 256 bs.reverse

theorem trimD_lm {xs : List Nat} (h : Digs B64 xs) : trimD xs = lm (ofD B64 xs) := trimD_eq B64_pos h
theorem trimD_wd {xs : List Nat} (h : Digs B32 xs) : trimD xs = wd (ofD B32 xs) := trimD_eq B32_pos h

/-- A number by its top digit. -/
theorem by_top {B : Nat} {xs : List Nat} (hd : Digs B xs) {n : Nat} (hn : xs.length = n + 1) : ∃ r, r < B ^ n ∧ ofD B xs = r + B ^ n * xs.getD n 0 := by
  refine ⟨ofD B (xs.take n), ?_, ?_⟩
  · have := ofD_lt (hd.take n)
    rwa [List.length_take, Nat.min_eq_left (by omega)] at this
  · have := ofD_take_succ (B := B) (xs := xs) (i := n) (by omega)
    rwa [List.take_of_length_le (by omega)] at this

/-- How many bits. -/
def bl (n : Nat) : Nat := if n = 0 then 0 else Nat.log2 n + 1
theorem bl_zero : bl 0 = 0 := rfl
theorem bl_uniq {n k : Nat} (h1 : 2 ^ k ≤ n) (h2 : n < 2 ^ (k + 1)) : bl n = k + 1 := by
  have h0 : n ≠ 0 := by have := Nat.pow_pos (n := k) (show 0 < 2 by decide); omega
  unfold bl
  rw [if_neg h0]
  have a := (Nat.le_log2 h0).2 h1
  have b := (Nat.log2_lt h0).2 h2
  omega
theorem bl_spec {n : Nat} (h0 : n ≠ 0) : 2 ^ (bl n - 1) ≤ n ∧ n < 2 ^ bl n := by
  unfold bl
  rw [if_neg h0]
  exact ⟨Nat.log2_self_le h0, Nat.lt_log2_self⟩
theorem bl_pos {n : Nat} (h0 : n ≠ 0) : 0 < bl n := by unfold bl; rw [if_neg h0]; omega
theorem lt_pow_bl (n : Nat) : n < 2 ^ bl n := by
  by_cases h : n = 0
  · subst h; decide
  · exact (bl_spec h).2
theorem bl_le {n k : Nat} (h : n < 2 ^ k) : bl n ≤ k := by
  by_cases h0 : n = 0
  · subst h0; exact Nat.zero_le _
  · have := (bl_spec h0).1
    have h3 : 2 ^ (bl n - 1) < 2 ^ k := by omega
    have := (Nat.pow_lt_pow_iff_right (show 1 < 2 by decide)).1 h3
    omega
theorem bl_top {r v n : Nat} (hr : r < B64 ^ n) (hv : v ≠ 0) : bl (r + B64 ^ n * v) = 64 * n + bl v := by
  obtain ⟨h1, h2⟩ := bl_spec hv
  have hp := bl_pos hv
  have e : B64 ^ n = 2 ^ (64 * n) := by rw [B64_2, ← Nat.pow_mul]
  rw [e] at hr ⊢
  have := bl_uniq (n := r + 2 ^ (64 * n) * v) (k := 64 * n + (bl v - 1))
    (by rw [Nat.pow_add]; have := Nat.mul_le_mul_left (2 ^ (64 * n)) h1; omega)
    (by
      rw [show 64 * n + (bl v - 1) + 1 = 64 * n + bl v from by omega, Nat.pow_add]
      have := Nat.mul_le_mul_left (2 ^ (64 * n)) (show v + 1 ≤ 2 ^ bl v from h2)
      rw [Nat.mul_add, Nat.mul_one] at this
      omega)
  omega

/-- A bit is its digit's. -/
theorem bit_digit {xs : List Nat} (hd : Digs B64 xs) {i : Nat} (hi : i / 64 < xs.length) : ofD B64 xs / 2 ^ i % 2 = xs.getD (i / 64) 0 / 2 ^ (i % 64) % 2 := by
  rw [getD_ofD (by decide) hd hi, B64_2, ← Nat.pow_mul]
  generalize ofD (2 ^ 64) xs = n
  have e : i = 64 * (i / 64) + i % 64 := by omega
  have h64 : i % 64 < 64 := Nat.mod_lt _ (by decide)
  generalize i % 64 = r at *
  generalize i / 64 = q at *
  subst e
  rw [Nat.pow_add, ← Nat.div_div_eq_div_mul]
  generalize n / 2 ^ (64 * q) = m
  obtain ⟨t, ht⟩ : ∃ t, 64 = r + 1 + t := ⟨64 - (r + 1), by omega⟩
  rw [ht, Nat.pow_add 2 (r + 1) t, Nat.pow_succ, Nat.mul_assoc, Nat.mod_mul_right_div_self, Nat.mod_mul_right_mod]

/-- Two numbers whose upper digits are the same are compared by the next one. -/
theorem drop_same {xs ys : List Nat} {k : Nat} (h : k < xs.length) (h' : k < ys.length) (hd : xs.drop (k + 1) = ys.drop (k + 1)) (e : xs.getD k 0 = ys.getD k 0) : xs.drop k = ys.drop k := by
  rw [List.drop_eq_getElem_cons h, List.drop_eq_getElem_cons h', hd]
  rw [List.getD_eq_getElem?_getD, List.getElem?_eq_getElem h, List.getD_eq_getElem?_getD, List.getElem?_eq_getElem h'] at e
  simp only [Option.getD_some] at e
  rw [e]
theorem lt_top {B : Nat} {xs ys : List Nat} (hx : Digs B xs) {k : Nat} (h : k < xs.length) (h' : k < ys.length) (hd : xs.drop (k + 1) = ys.drop (k + 1)) (e : xs.getD k 0 < ys.getD k 0) : ofD B xs < ofD B ys := by
  have a := ofD_take_drop (B := B) xs (k + 1) h
  have b := ofD_take_drop (B := B) ys (k + 1) h'
  rw [ofD_take_succ h] at a
  rw [ofD_take_succ h'] at b
  have l := ofD_lt (hx.take k)
  rw [List.length_take, Nat.min_eq_left (by omega)] at l
  rw [hd] at a
  have := Nat.mul_le_mul_left (B ^ k) (show xs.getD k 0 + 1 ≤ ys.getD k 0 from e)
  rw [Nat.mul_add, Nat.mul_one] at this
  omega

theorem ofD_take_set {B : Nat} {zs : List Nat} {i v : Nat} (h : i < zs.length) : ofD B ((zs.set i v).take (i + 1)) = ofD B (zs.take i) + B ^ i * v := by
  rw [ofD_take_succ (by rw [List.length_set]; exact h), List.take_set_of_le (Nat.le_refl _)]
  congr 2
  rw [List.getD_eq_getElem?_getD, List.getElem?_set_self h]; rfl

theorem ofD_take_all {B : Nat} (xs : List Nat) {n : Nat} (h : xs.length ≤ n) : ofD B (xs.take n) = ofD B xs := by rw [List.take_of_length_le h]

theorem ofD_take_getD {B : Nat} (ys : List Nat) (i : Nat) : ofD B (ys.take (i + 1)) = ofD B (ys.take i) + B ^ i * ys.getD i 0 := by
  rcases Nat.lt_or_ge i ys.length with h | h
  · exact ofD_take_succ h
  · rw [List.take_of_length_le (by omega), List.take_of_length_le h, List.getD_eq_getElem?_getD, List.getElem?_eq_none h]
    simp

theorem ofBE_snoc (bs : List Nat) (c : Nat) : ofBE (bs ++ [c]) = ofBE bs * 256 + c := by
  unfold ofBE
  rw [List.reverse_append]
  show c + 256 * ofD 256 bs.reverse = _
  omega
theorem ofBE_take_succ {bs : List Nat} {k : Nat} (h : k < bs.length) : ofBE (bs.take (k + 1)) = ofBE (bs.take k) * 256 + bs.getD k 0 := by
  rw [take_succ_getD h, ofBE_snoc]


/-- The digit at a place of a number that ends in zeros. -/
theorem digit_mod {B b j : Nat} (hb : 0 < b) (hB : B = b ^ j) {xs : List Nat} (hx : Digs B xs) {q r M : Nat} (hr : r < j) (hq : q < xs.length) (h : ofD B xs = M * b ^ (j * q + r + 1)) : xs.getD q 0 % b ^ (r + 1) = 0 := by
  have hp : 0 < B := by rw [hB]; exact Nat.pow_pos hb
  rw [getD_ofD hp hx hq, h, hB, ← Nat.pow_mul]
  have e1 : M * b ^ (j * q + r + 1) / b ^ (j * q) = M * b ^ (r + 1) := by
    rw [Nat.add_assoc, Nat.pow_add, Nat.mul_left_comm, Nat.mul_div_cancel_left _ (Nat.pow_pos hb)]
  rw [e1]
  obtain ⟨t, rfl⟩ : ∃ t, j = r + 1 + t := ⟨j - (r + 1), by omega⟩
  rw [Nat.pow_add b (r + 1) t, Nat.mod_mul_right_mod, Nat.mul_mod_left]

/-- One byte more, put into its digit. -/
theorem ofD_put {B b j : Nat} (hB : B = b ^ j) {xs : List Nat} {q r N c : Nat} (hq : q < xs.length) (h : ofD B xs = N) : ofD B (xs.set q (xs.getD q 0 + c * b ^ r)) = N + c * b ^ (j * q + r) := by
  have h1 := ofD_set (B := B) (xs := xs) (i := q) (v := xs.getD q 0 + c * b ^ r) hq
  have e : B ^ q * (c * b ^ r) = c * b ^ (j * q + r) := by rw [hB, ← Nat.pow_mul, Nat.pow_add, Nat.mul_left_comm]
  rw [Nat.mul_add, e] at h1
  omega

theorem put_lt {b j r c x : Nat} (hb : 0 < b) (hr : r < j) (hc : c < b) (hx : x < b ^ j) (hz : x % b ^ (r + 1) = 0) : x + c * b ^ r < b ^ j := by
  obtain ⟨t, rfl⟩ : ∃ t, j = r + 1 + t := ⟨j - (r + 1), by omega⟩
  obtain ⟨m, rfl⟩ : ∃ m, x = b ^ (r + 1) * m := ⟨x / b ^ (r + 1), by have := Nat.div_add_mod x (b ^ (r + 1)); omega⟩
  have hp : 0 < b ^ (r + 1) := Nat.pow_pos hb
  rw [Nat.pow_add b (r + 1) t] at hx ⊢
  have hm : m < b ^ t := Nat.lt_of_mul_lt_mul_left hx
  have hcr : c * b ^ r < b ^ (r + 1) := by rw [Nat.pow_succ, Nat.mul_comm]; exact Nat.mul_lt_mul_of_pos_left hc (Nat.pow_pos hb)
  have : b ^ (r + 1) * (m + 1) ≤ b ^ (r + 1) * b ^ t := Nat.mul_le_mul_left _ hm
  rw [Nat.mul_add, Nat.mul_one] at this
  omega

end Go.Proofs.YtjokcbjahidckaaGreat
/-! What is said of memory: rows of whole numbers that are read, rows that a call made itself. No condition. -/
namespace Go.Proofs.YtjokcbjahidckaaGreat
open Go.RowKit

/-- Numbers as cells. -/
def cellsOf (k : IntKind) (xs : List Nat) : Array Value := (xs.map fun n : Nat => Value.int k (n : Int)).toArray

/-- From A on the numbers xs are read. -/
def Rd (w : World) (k : IntKind) (A : Option Addr) (xs : List Nat) : Prop :=
  xs.length ≤ 1099511627776 ∧ (xs = [] ∨ ∃ b off, A = some ⟨b, off, none⟩ ∧ ∀ j, j < xs.length → w.cell? ⟨b, off + j, none⟩ = some (.int k (xs.getD j 0 : Nat)))

theorem Rd.nil (w : World) (k : IntKind) (A : Option Addr) : Rd w k A [] := ⟨by simp, .inl rfl⟩
theorem Rd.len {w : World} {k : IntKind} {A : Option Addr} {xs : List Nat} (h : Rd w k A xs) : xs.length ≤ 1099511627776 := h.1

theorem cell_below {w w1 : World} (h : Below w.heap.size w w1) {a : Addr} {v : Value} (hc : w.cell? a = some v) : w1.cell? a = some v := (h.cell (World.block_lt_of_cell? w a hc)).trans hc

theorem Rd.below {w w1 : World} {k : IntKind} {A : Option Addr} {xs : List Nat} (h : Rd w k A xs) (hb : Below w.heap.size w w1) : Rd w1 k A xs :=
  ⟨h.1, h.2.imp id fun ⟨b, off, e, hc⟩ => ⟨b, off, e, fun j hj => cell_below hb (hc j hj)⟩⟩

theorem Rd.take {w : World} {k : IntKind} {A : Option Addr} {xs : List Nat} (h : Rd w k A xs) (n : Nat) : Rd w k A (xs.take n) := by
  refine ⟨Nat.le_trans (by rw [List.length_take]; exact Nat.min_le_right _ _) h.1, ?_⟩
  rcases h.2 with rfl | ⟨b, off, e, hc⟩
  · simp
  · refine .inr ⟨b, off, e, fun j hj => ?_⟩
    rw [List.length_take] at hj
    rw [hc j (by omega)]
    simp only [List.getD_eq_getElem?_getD, List.getElem?_take]
    rw [if_pos (by omega)]

theorem Rd.drop {w : World} {k : IntKind} {b off : Nat} {xs : List Nat} (h : Rd w k (some ⟨b, off, none⟩) xs) (n : Nat) : Rd w k (some ⟨b, off + n, none⟩) (xs.drop n) := by
  refine ⟨Nat.le_trans (by rw [List.length_drop]; exact Nat.sub_le _ _) h.1, ?_⟩
  rcases h.2 with rfl | ⟨b', off', e, hc⟩
  · simp
  · injection e with e
    injection e with e1 e2
    subst e1; subst e2
    refine .inr ⟨b, off + n, rfl, fun j hj => ?_⟩
    rw [List.length_drop] at hj
    rw [Nat.add_assoc, hc (n + j) (by omega)]
    simp only [List.getD_eq_getElem?_getD, List.getElem?_drop]

/-- Block b is a row of numbers. -/
def Row (w : World) (b : Nat) (k : IntKind) (t : TypeId) (xs : List Nat) : Prop := w.heap[b]? = some (.cells (cellsOf k xs) t (0, 0))

theorem Row.lt {w : World} {b : Nat} {k : IntKind} {t : TypeId} {xs : List Nat} (h : Row w b k t xs) : b < w.heap.size := (Array.getElem?_eq_some_iff.1 h).1

theorem Row.cell {w : World} {b : Nat} {k : IntKind} {t : TypeId} {xs : List Nat} (h : Row w b k t xs) {i : Nat} (hi : i < xs.length) : w.cell? ⟨b, i, none⟩ = some (.int k (xs.getD i 0 : Nat)) := by
  simp only [World.cell?]
  rw [h]
  simp [cellsOf, hi]

theorem Row.frozen {w : World} {b : Nat} {k : IntKind} {t : TypeId} {xs : List Nat} (h : Row w b k t xs) (i : Nat) : w.frozen? ⟨b, i, none⟩ = false := by
  simp only [World.frozen?]
  rw [h]
  simp

theorem Row.set {w : World} {b : Nat} {k : IntKind} {t : TypeId} {xs : List Nat} (h : Row w b k t xs) (i v : Nat) : Row (w.setCell ⟨b, i, none⟩ (.int k (v : Nat))) b k t (xs.set i v) := by
  unfold Row at *
  simp only [World.setCell, Array.getElem?_modify]
  rw [if_pos trivial, h]
  simp [cellsOf, List.map_set]

theorem Row.far {w : World} {b : Nat} {k : IntKind} {t : TypeId} {xs : List Nat} (h : Row w b k t xs) {a : Addr} (ha : b ≠ a.block) (v : Value) : Row (w.setCell a v) b k t xs := by
  unfold Row at *
  rw [Below.heap_setCell _ _ _ _ ha]
  exact h

theorem Row.drew {w : World} {b : Nat} {k : IntKind} {t : TypeId} {xs : List Nat} (h : Row w b k t xs) : Row w.drew b k t xs := h
theorem Row.below {w w1 : World} {b : Nat} {k : IntKind} {t : TypeId} {xs : List Nat} (h : Row w b k t xs) (hb : Below w.heap.size w w1) : Row w1 b k t xs := by
  unfold Row
  rw [hb.block b h.lt]
  exact h

theorem Row.rd {w : World} {b : Nat} {k : IntKind} {t : TypeId} {xs : List Nat} (h : Row w b k t xs) (hl : xs.length ≤ 1099511627776) : Rd w k (some ⟨b, 0, none⟩) xs :=
  ⟨hl, .inr ⟨b, 0, rfl, fun j hj => by rw [Nat.zero_add]; exact h.cell hj⟩⟩

theorem Row.alloc {w : World} {k : IntKind} {t : TypeId} {xs : List Nat} {cs : Array Value} (h : cs = cellsOf k xs) : Row (w.alloc (.cells cs t)) w.heap.size k t xs := by
  subst h
  unfold Row
  exact heap_alloc_new _ _

/-- A slice's value that reads as xs. -/
def IsSl (w : World) (k : IntKind) (v : Value) (xs : List Nat) : Prop := ∃ A cap, v = .slice A xs.length cap ∧ xs.length ≤ cap ∧ Rd w k A xs ∧ (A = none → cap = 0)

theorem IsSl.below {w w1 : World} {k : IntKind} {v : Value} {xs : List Nat} (h : IsSl w k v xs) (hb : Below w.heap.size w w1) : IsSl w1 k v xs :=
  let ⟨A, c, e, hc, hr, hA⟩ := h
  ⟨A, c, e, hc, hr.below hb, hA⟩

/-- A slice comes back that reads as xs; nothing that was there has turned. -/
def RetSl (w : World) (k : IntKind) (xs : List Nat) (e : Ending) (w' : World) : Prop := ∃ v, e = .returned v ∧ Below w.heap.size w w' ∧ IsSl w' k v xs
/-- A plain value comes back; nothing that was there has turned. -/
def Ret (w : World) (v : Value) (e : Ending) (w' : World) : Prop := e = .returned v ∧ Below w.heap.size w w'

theorem cellsOf_zeros (k : IntKind) (n : Nat) : madeCells #[.int k 0] n = cellsOf k (List.replicate n 0) := by
  apply Array.ext
  · simp [cellsOf, size_madeCells]
  · intro i h1 h2
    simp [madeCells, cellsOf, Nat.mod_one]

/-- A byte is put into a limb by 'x |= c << (8 r)'. -/
theorem or_put64 (x c r : Nat) (hx : x < B64) (hc : c < 256) (hr : r < 8) (hz : x % 256 ^ (r + 1) = 0) :
    bits .or .u64 (x : Int) (IntKind.u64.wrap ((c : Int) * 2 ^ (r * 8))) = ((x + c * 256 ^ r : Nat) : Int) := by
  have e256 : (2 : Nat) ^ (r * 8) = 256 ^ r := by rw [Nat.mul_comm, Nat.pow_mul]
  have hcr : c * 256 ^ r < 256 ^ (r + 1) := by rw [Nat.pow_succ, Nat.mul_comm]; exact Nat.mul_lt_mul_of_pos_left hc (Nat.pow_pos (by decide))
  have hle : 256 ^ (r + 1) ≤ 256 ^ 8 := Nat.pow_le_pow_right (by decide) (by omega)
  have h8 : (256 : Nat) ^ 8 = 18446744073709551616 := by decide
  have e1 : (c : Int) * 2 ^ (r * 8) = ((c * 256 ^ r : Nat) : Int) := by
    rw [Int.natCast_mul, ← e256, Int.natCast_pow]; rfl
  have w2 : IntKind.u64.wrap ((c * 256 ^ r : Nat) : Int) = ((c * 256 ^ r : Nat) : Int) := by rw [IntKind.wrap_u64]; omega
  rw [e1, w2, u64_or_nat x _ hx (by omega), nat_join (8 * (r + 1))]
  · rw [Nat.pow_mul]; exact hz
  · rw [Nat.pow_mul]; exact hcr

theorem shr_and1 (v r : Nat) (hv : v < 18446744073709551616) (_hr : r < 64) : bits .and .u64 ((v : Int) / 2 ^ r) 1 = ((v / 2 ^ r % 2 : Nat) : Int) := by
  have e : (v : Int) / 2 ^ r = ((v / 2 ^ r : Nat) : Int) := by rw [Int.natCast_ediv, Int.natCast_pow]; rfl
  have h : v / 2 ^ r < 18446744073709551616 := Nat.lt_of_le_of_lt (Nat.div_le_self _ _) hv
  rw [e]
  have := u64_and_nat (v / 2 ^ r) 1 h (by decide)
  rw [nat_mask1] at this
  exact this

/-- make([]uint64, m), make([]uint32, m), make([]byte, m) at this program. -/
theorem mk64 (e : Int) (m : Nat) (he : e = (m : Int)) (hm : m ≤ 17592186044416) (W : World) : (Instr.makeSlice 86 (.int .i64 e) (.int .i64 e)).run Tryz.prog W = .ok (.slice (some ⟨W.heap.size, 0, none⟩) m m) (W.alloc (.cells (cellsOf .u64 (List.replicate m 0)) 22)) := by
  subst he
  rw [← cellsOf_zeros]
  exact run_make_row' 86 22 (.int .u64 0) 8 Tryz.underlying86 (by kernel_rfl) rfl .i64 .i64 m (by omega) (by omega) W
theorem mk32 (e : Int) (m : Nat) (he : e = (m : Int)) (hm : m ≤ 17592186044416) (W : World) : (Instr.makeSlice 31 (.int .i64 e) (.int .i64 e)).run Tryz.prog W = .ok (.slice (some ⟨W.heap.size, 0, none⟩) m m) (W.alloc (.cells (cellsOf .u32 (List.replicate m 0)) 180)) := by
  subst he
  rw [← cellsOf_zeros]
  exact run_make_row' 31 180 (.int .u32 0) 4 Tryz.underlying31 (by kernel_rfl) rfl .i64 .i64 m (by omega) (by omega) W
theorem mk8 (e : Int) (m : Nat) (he : e = (m : Int)) (hm : m ≤ 17592186044416) (W : World) : (Instr.makeSlice 27 (.int .i64 e) (.int .i64 e)).run Tryz.prog W = .ok (.slice (some ⟨W.heap.size, 0, none⟩) m m) (W.alloc (.cells (cellsOf .u8 (List.replicate m 0)) 5)) := by
  subst he
  rw [← cellsOf_zeros]
  exact run_make_row' 27 5 (.int .u8 0) 1 Tryz.underlying27 (by kernel_rfl) rfl .i64 .i64 m (by omega) (by omega) W

/-- math/bits.Add64, Sub64 at this program. -/
theorem run_add64_at (x y c : Int) (hx : 0 ≤ x) (hy : 0 ≤ y) (hc0 : 0 ≤ c) (hc : c ≤ 1) (w : World) : (callFunc 251 #[.int .u64 x, .int .u64 y, .int .u64 c]).run Tryz.prog w =
    .ok (.value (.tuple #[.int .u64 ((x + y + c) % 18446744073709551616), .int .u64 ((x + y + c) / 18446744073709551616)])) w := by
  rw [run_callFunc_extern Tryz.func251 (by kernel_rfl) (by kernel_rfl) (by kernel_rfl) (e := add64Entry) (by kernel_rfl), run_add64 x y c hx hy hc0 hc]
  rfl

theorem run_add64_at0 (x y : Int) (hx : 0 ≤ x) (hy : 0 ≤ y) (w : World) : (callFunc 251 #[.int .u64 x, .int .u64 y, .int .u64 0]).run Tryz.prog w =
    .ok (.value (.tuple #[.int .u64 ((x + y) % 18446744073709551616), .int .u64 ((x + y) / 18446744073709551616)])) w := by
  have := run_add64_at x y 0 hx hy (by decide) (by decide) w
  rwa [Int.add_zero] at this

/-- The borrow of x - y - b. -/
def bor (x y b : Int) : Int := if x < y + b then 1 else 0
theorem bor_range (x y b : Int) : 0 ≤ bor x y b ∧ bor x y b ≤ 1 := by unfold bor; split <;> omega

def sub64Entry : Array Value → Sem Value := fun args => do
  let (x, y, b) ← Extern.MathBitsCarry.three "Sub64" args
  pure (Extern.MathBitsCarry.pair ((x + Extern.MathBitsCarry.m64 - y - b) % Extern.MathBitsCarry.m64) (if x < y + b then 1 else 0))

theorem run_sub64 (x y b : Nat) (hb : b ≤ 1) (w : World) :
    (sub64Entry #[.int .u64 x, .int .u64 y, .int .u64 b]).run Tryz.prog w =
      .ok (.tuple #[.int .u64 (((x + 18446744073709551616 - y - b) % 18446744073709551616 : Nat) : Int), .int .u64 ((if x < y + b then 1 else 0 : Nat) : Int)]) w := by
  have : b = 0 ∨ b = 1 := by omega
  rcases this with rfl | rfl <;> rfl

theorem run_sub64_at (x y b : Int) (hx : 0 ≤ x) (hy : 0 ≤ y) (hy' : y < 18446744073709551616) (hb0 : 0 ≤ b) (hb : b ≤ 1) (w : World) : (callFunc 356 #[.int .u64 x, .int .u64 y, .int .u64 b]).run Tryz.prog w =
    .ok (.value (.tuple #[.int .u64 ((x - y - b) % 18446744073709551616), .int .u64 (bor x y b)])) w := by
  obtain ⟨x, rfl⟩ := Int.eq_ofNat_of_zero_le hx
  obtain ⟨y, rfl⟩ := Int.eq_ofNat_of_zero_le hy
  obtain ⟨b, rfl⟩ := Int.eq_ofNat_of_zero_le hb0
  have e1 : (((x + 18446744073709551616 - y - b) % 18446744073709551616 : Nat) : Int) = ((x : Int) - y - b) % 18446744073709551616 := by omega
  have e2 : ((if x < y + b then 1 else 0 : Nat) : Int) = bor x y b := by unfold bor; split <;> split <;> omega
  rw [← e1, ← e2]
  rw [run_callFunc_extern Tryz.func356 (by kernel_rfl) (by kernel_rfl) (by kernel_rfl) (e := sub64Entry) (by kernel_rfl), run_sub64 x y b (by omega)]
  rfl

end Go.Proofs.YtjokcbjahidckaaGreat
/-! Three contracts of math/bits at this program (laid by the kit's lay-shelf.mjs, lay-plain.mjs). -/
namespace Go.Proofs
open Go.Shelf
def Tryz.lays134_ren : Go.Shelf.Ren := ⟨fun | 134 => 345 | 129 => 343 | n => n, fun | 53 => 22 | 3 => 3 | 4 => 4 | 46 => 183 | 5 => 5 | 9 => 9 | n => n, fun | n => n⟩
theorem Tryz.lays134 : Go.Proofs.Lays.n134 Tryz.prog Tryz.lays134_ren := {
  mixed := by kernel_rfl
  f129 := Tryz.func343.trans (congrArg some (by kernel_rfl))
  f134 := Tryz.func345.trans (congrArg some (by kernel_rfl))
  t3 := Tryz.underlying3
  a3 := Tryz.isAgg3
  z3 := Tryz.sizeOf3
  v3 := Tryz.zeroValue3
  t4 := Tryz.underlying4
  a4 := Tryz.isAgg4
  z4 := Tryz.sizeOf4
  v4 := Tryz.zeroValue4
  t5 := Tryz.underlying5
  a5 := Tryz.isAgg5
  z5 := Tryz.sizeOf5
  v5 := Tryz.zeroValue5
  t9 := Tryz.underlying9
  a9 := Tryz.isAgg9
  z9 := Tryz.sizeOf9
  v9 := Tryz.zeroValue9
  t46 := Tryz.underlying183
  a46 := Tryz.isAgg183
  z46 := Tryz.sizeOf183
  v46 := Tryz.zeroValue183
  t53 := Tryz.underlying22
  a53 := Tryz.isAgg22
  z53 := Tryz.sizeOf22
  v53 := Tryz.zeroValue22 }
/-- bits.LeadingZeros64: "LeadingZeros64 returns the number of leading zero bits in x; the result is 64 for x == 0.": IT RETURNS '64 - Lib.bitLen x'; the world is as it was. ITS CALLEE bits.Len64 IS MET BY ITS OWN CONTRACT OFF THE SHELF (lay that first): entered in place it sends the kernel out of memory. (LAID: no walk: one application.) -/
theorem Tryz.bits_LeadingZeros64 (x : Int) (w : World) (h0 : 0 ≤ x) (h1 : x ≤ 18446744073709551615) :
    Calls Tryz.prog 345 #[.int .u64 x] w fun e w' => e = .returned (.int .i64 (64 - (Lib.bitLen x.toNat : Int))) ∧ w' = w := Any.bits_LeadingZeros64 Tryz.lays134 x w h0 h1
def Tryz.lays129_ren : Go.Shelf.Ren := ⟨fun | 129 => 343 | n => n, fun | 53 => 22 | 3 => 3 | 4 => 4 | 46 => 183 | 5 => 5 | 9 => 9 | n => n, fun | n => n⟩
theorem Tryz.lays129 : Go.Proofs.Lays.n129 Tryz.prog Tryz.lays129_ren := {
  mixed := by kernel_rfl
  f129 := Tryz.func343.trans (congrArg some (by kernel_rfl))
  t3 := Tryz.underlying3
  a3 := Tryz.isAgg3
  z3 := Tryz.sizeOf3
  v3 := Tryz.zeroValue3
  t4 := Tryz.underlying4
  a4 := Tryz.isAgg4
  z4 := Tryz.sizeOf4
  v4 := Tryz.zeroValue4
  t5 := Tryz.underlying5
  a5 := Tryz.isAgg5
  z5 := Tryz.sizeOf5
  v5 := Tryz.zeroValue5
  t9 := Tryz.underlying9
  a9 := Tryz.isAgg9
  z9 := Tryz.sizeOf9
  v9 := Tryz.zeroValue9
  t46 := Tryz.underlying183
  a46 := Tryz.isAgg183
  z46 := Tryz.sizeOf183
  v46 := Tryz.zeroValue183
  t53 := Tryz.underlying22
  a53 := Tryz.isAgg22
  z53 := Tryz.sizeOf22
  v53 := Tryz.zeroValue22 }
/-- bits.Len64: "Len64 returns the minimum number of bits required to represent x; the result is 0 for x == 0.": IT RETURNS 'Lib.bitLen x'; the world is as it was. ('h0', 'h1': x is a uint64.) (LAID: no walk: one application.) -/
theorem Tryz.bits_Len64 (x : Int) (w : World) (h0 : 0 ≤ x) (h1 : x ≤ 18446744073709551615) :
    Calls Tryz.prog 343 #[.int .u64 x] w fun e w' => e = .returned (.int .i64 (Lib.bitLen x.toNat)) ∧ w' = w := Any.bits_Len64 Tryz.lays129 x w h0 h1
def Tryz.lays264_ren : Go.Shelf.Ren := ⟨fun | 264 => 250 | n => n, fun | 53 => 22 | 46 => 183 | n => n, fun | n => n⟩
theorem Tryz.lays264 : Go.Proofs.Lays.n264 Tryz.prog Tryz.lays264_ren := {
  mixed := by kernel_rfl
  f264 := Tryz.func250.trans (congrArg some (by kernel_rfl))
  t46 := Tryz.underlying183
  a46 := Tryz.isAgg183
  z46 := Tryz.sizeOf183
  v46 := Tryz.zeroValue183
  t53 := Tryz.underlying22
  a53 := Tryz.isAgg22
  z53 := Tryz.sizeOf22
  v53 := Tryz.zeroValue22 }
open Go.RowKit Go.Lib in
theorem Tryz.bits_Mul64 (x y : Nat) (hx : x < 18446744073709551616) (hy : y < 18446744073709551616) (w : World) :
    Calls Tryz.prog 250 #[.int .u64 x, .int .u64 y] w fun e w' => e = .returned (.tuple #[.int .u64 ((x * y / 18446744073709551616 : Nat) : Int), .int .u64 ((x * y % 18446744073709551616 : Nat) : Int)]) ∧ w' = w := Any.bits_Mul64 Tryz.lays264 x y hx hy w
end Go.Proofs
/-! limb.Trim, From, Bits, Bit, Cmp: what they answer, in whatever memory. Conditions: the slices read as limbs below 2^64, bytes below 256. -/
namespace Go.Proofs.YtjokcbjahidckaaGreat
open Go.RowKit

theorem Rd.at {w : World} {k : IntKind} {A : Option Addr} {xs : List Nat} (h : Rd w k A xs) {j : Nat} (hj : j < xs.length) : ∃ b off, A = some ⟨b, off, none⟩ ∧ w.cell? ⟨b, off + j, none⟩ = some (.int k (xs.getD j 0 : Nat)) := by
  rcases h.2 with rfl | ⟨b, off, e, hx⟩
  · simp at hj
  · exact ⟨b, off, e, hx j hj⟩

theorem trim_any (A : Option Addr) (cap : Nat) (xs : List Nat) (w : World) (hc : xs.length ≤ cap) (hr : Rd w .u64 A xs) :
    Calls Tryz.prog 202 #[.slice A xs.length cap] w fun e w' => e = .returned (.slice A (trimD xs).length (trimD xs).length) ∧ w = w' := by
  have hl := hr.1
  rw [length_trimD]
  have HX := Lib.hid hr
  clear hr
  go_enter Tryz.func202, Tryz.ntmps202
  go_wp2
  go_loop [3] (fun n => ∃ k : Nat, k ≤ xs.length ∧ n = .int .i64 k ∧ trimLen xs k = trimLen xs xs.length) (fun n => (intOf n).toNat)
  case atStart => exact ⟨_, Nat.le_refl _, rfl, rfl⟩
  case round =>
    obtain ⟨k, hk, rfl, hrel⟩ := hrel
    have HR := Lib.hid hrel
    clear hrel
    rcases k with _ | k
    · go_wp2
      go_ret
      exact ⟨by rw [← HR.out]; rfl, rfl⟩
    · obtain ⟨b, off, rfl, hcell⟩ := HX.out.at (j := k) (by omega)
      by_cases h0 : xs.getD k 0 = 0
      · have H0 := Lib.hid h0
        rw [h0] at hcell
        clear h0
        go_wp2
        go_round
        case rel => exact ⟨k, by omega, by go_num, by rw [← HR.out]; simp only [trimLen]; rw [if_pos H0.out]⟩
        case measure => simp [intOf]
      · have hb : (((xs.getD k 0 : Nat) : Int) == 0) = false := by rw [beq_eq_false_iff_ne]; omega
        have H0 := Lib.hid h0
        clear h0
        generalize hv : xs.getD k 0 = v at *
        have HV := Lib.hid hv
        clear hv
        go_wp2
        go_ret
        refine ⟨?_, rfl⟩
        rw [← HR.out]; simp only [trimLen]; rw [HV.out, if_neg H0.out]; rfl
theorem trim_sl (v : Value) (xs : List Nat) (w : World) (hd : Digs B64 xs) (h : IsSl w .u64 v xs) : Calls Tryz.prog 202 #[v] w fun e w' => w = w' ∧ RetSl w .u64 (lm (ofD B64 xs)) e w' := by
  obtain ⟨A, cap, rfl, hc, hr, hA⟩ := h
  refine (trim_any A cap xs w hc hr).mono ?_
  rintro e w' ⟨rfl, rfl⟩
  refine ⟨rfl, _, rfl, Below.refl _ _, A, (trimD xs).length, ?_⟩
  rw [← trimD_lm hd]
  refine ⟨rfl, Nat.le_refl _, hr.take _, fun h => ?_⟩
  have h0 := hA h
  have := length_trimD_le xs
  omega

theorem from_any (A : Option Addr) (cap : Nat) (bs : List Nat) (w : World) (hc : bs.length ≤ cap) (hr : Rd w .u8 A bs) (hd : Digs 256 bs) :
    Calls Tryz.prog 105 #[.slice A bs.length cap] w (RetSl w .u64 (lm (ofBE bs))) := by
  have hcl : ∀ j, j < bs.length → ∃ b off, A = some ⟨b, off, none⟩ ∧ w.cell? ⟨b, off + j, none⟩ = some (.int .u8 (bs.getD j 0 : Nat)) := by
    intro j hj
    rcases hr.2 with rfl | ⟨b, off, e, hx⟩
    · simp at hj
    · exact ⟨b, off, e, hx j hj⟩
  have hl := hr.1
  have HX := Lib.hid hcl
  have HD := Lib.hid hd
  clear hcl hd hr
  obtain ⟨m, hm⟩ : ∃ m, m = (bs.length + 7) / 8 := ⟨_, rfl⟩
  have hmk := mk64 ((((bs.length : Nat) : Int) + 7)/8) m (by omega) (by omega)
  have HM := Lib.hid hm
  clear hm
  go_enter Tryz.func105, Tryz.ntmps105
  go_wp2
  go_loopw [4, 5, 6, 14] (fun _ _ _ i wr => ∃ (k : Nat) (xs : List Nat), k ≤ bs.length ∧ i = .int .i64 k ∧ Below w.heap.size w wr ∧ Row wr w.heap.size .u64 22 xs ∧ xs.length = m ∧ Digs B64 xs ∧ ofD B64 xs = ofBE (bs.take k) * 256 ^ (bs.length - k)) (fun _ _ _ i _ => bs.length - (intOf i).toNat)
  case atStart =>
    refine ⟨0, List.replicate m 0, Nat.zero_le _, rfl, ?_, ?_, ?_, ?_, ?_⟩
    · exact (Below.refl _ _).alloc (Nat.le_refl _) _
    · exact Row.alloc rfl
    · simp
    · exact Digs.replicate (by decide) _
    · rw [ofD_replicate]; simp [ofBE, ofD]
  case round =>
    obtain ⟨k, xs, hk, rfl, hb, hrow, hlen, hdx, hval⟩ := hrel
    have HL := Lib.hid hlen
    have HV := Lib.hid hval
    clear hlen hval
    by_cases hlt : k < bs.length
    · obtain ⟨b, off, rfl, hcw⟩ := HX.out k hlt
      have hcell : wr.cell? ⟨b, off + k, none⟩ = some (.int .u8 (bs.getD k 0 : Nat)) := cell_below hb hcw
      clear hcw
      have hq : (bs.length - 1 - k) / 8 < xs.length := by have := HM.out; have := HL.out; omega
      have hq' : (bs.length - 1 - k) / 8 < m := by have := HM.out; omega
      have hc2 := hrow.cell hq
      have hf2 := hrow.frozen ((bs.length - 1 - k) / 8)
      have hc5 := HD.out.getD (by decide) k
      have hd2 := hdx.getD (by decide) ((bs.length - 1 - k) / 8)
      have HD2 := Lib.hid hd2
      have hz : (xs.getD ((bs.length - 1 - k) / 8) 0) % 256 ^ ((bs.length - 1 - k) % 8 + 1) = 0 :=
        digit_mod (b := 256) (j := 8) (by decide) B64_256 hdx (by omega) hq (M := ofBE (bs.take k)) (by
          rw [HV.out]; congr 2; omega)
      have hor := or_put64 _ _ _ hd2 hc5 (by omega) hz
      have hput := put_lt (b := 256) (j := 8) (r := (bs.length - 1 - k) % 8) (by decide) (by omega) hc5 (by rw [← B64_256]; exact hd2) hz
      obtain ⟨y, hy⟩ : ∃ y, y = xs.getD ((bs.length - 1 - k) / 8) 0 + bs.getD k 0 * 256 ^ ((bs.length - 1 - k) % 8) := ⟨_, rfl⟩
      rw [← hy] at hor hput
      have HOR := Lib.hid hor
      have HY := Lib.hid hy
      have HP := Lib.hid hput
      clear hd2 hz hput hor hy
      generalize hgb : bs.getD k 0 = c at *
      generalize hgx : xs.getD ((bs.length - 1 - k) / 8) 0 = x at *
      have HGB := Lib.hid hgb
      have HGX := Lib.hid hgx
      clear hgb hgx
      go_wp2
      go_region
      rw [HOR.out]
      go_wp2
      go_roundw
      case rel =>
        refine ⟨k + 1, _, hlt, by go_num, (hb.setCell (Nat.le_refl _) _).drew, (hrow.set _ y).drew, ?_, ?_, ?_⟩
        · rw [List.length_set]; exact HL.out
        · exact hdx.set _ (by rw [B64_256]; exact HP.out)
        · have hy := HY.out
          rw [← HGX.out] at hy
          rw [hy, ofD_put (b := 256) (j := 8) B64_256 hq HV.out, ofBE_take_succ hlt, HGB.out]
          have e1 : 8 * ((bs.length - 1 - k) / 8) + (bs.length - 1 - k) % 8 = bs.length - (k + 1) := by omega
          have e2 : bs.length - k = (bs.length - (k + 1)) + 1 := by omega
          rw [e1, e2, Nat.pow_succ, Nat.add_mul, Nat.mul_assoc, Nat.mul_comm 256]
      case measure => simp [intOf]; omega
    · have hkk : k = bs.length := by omega
      subst hkk
      go_wp2_with (go_at_call 202; refine (trim_sl _ xs _ hdx ⟨_, _, by rw [HL.out], by rw [HL.out]; exact Nat.le_refl _, hrow.rd (by have := HM.out; have := HL.out; omega), nofun⟩).mono ?_; rintro e w' ⟨rfl, v, rfl, hbv, hsl⟩)
      go_ret
      refine ⟨v, rfl, hb, ?_⟩
      have := HV.out
      rw [List.take_length, Nat.sub_self, Nat.pow_zero, Nat.mul_one] at this
      rwa [this] at hsl

/-! ### Bits, Bit -/
theorem bitLenAux_bl : ∀ (f x : Nat), x < 2 ^ f → Lib.bitLenAux f x = bl x
  | 0, x, h => by
    have : x = 0 := by omega
    subst this; rfl
  | f + 1, x, h => by
    simp only [Lib.bitLenAux]
    by_cases h0 : x = 0
    · subst h0; rfl
    · rw [if_neg h0, bitLenAux_bl f (x / 2) (by rw [Nat.pow_succ] at h; omega)]
      unfold bl
      rw [if_neg h0, Nat.log2_def x]
      by_cases h1 : 2 ≤ x
      · rw [if_pos h1, if_neg (by omega)]; omega
      · rw [if_neg h1, if_pos (by omega)]
theorem bitLen_bl {x : Nat} (h : x < B64) : Lib.bitLen x = bl x := bitLenAux_bl 64 x (by rw [← B64_2]; exact h)

theorem len64_any (v : Nat) (hv : v < 18446744073709551616) (w : World) : Calls Tryz.prog 343 #[.int .u64 (v : Nat)] w fun e w' => e = .returned (.int .i64 (bl v : Nat)) ∧ w = w' := by
  refine (Tryz.bits_Len64 _ w (by omega) (by omega)).mono ?_
  rintro e w' ⟨rfl, rfl⟩
  refine ⟨?_, rfl⟩
  rw [Int.toNat_natCast, bitLen_bl (by rw [B64_eq]; exact hv)]
theorem bl64 {v : Nat} (hv : v < 18446744073709551616) : bl v ≤ 64 := bl_le (by rw [← B64_2, B64_eq]; exact hv)

theorem bits_any (A : Option Addr) (cap : Nat) (xs : List Nat) (w : World) (hc : xs.length ≤ cap) (hr : Rd w .u64 A xs) (hd : Digs B64 xs) :
    Calls Tryz.prog 285 #[.slice A xs.length cap] w fun e w' => e = .returned (.int .i64 (bl (ofD B64 xs) : Nat)) ∧ w = w' := by
  have hl := hr.1
  have hlt := length_trimD_le xs
  have HX := Lib.hid (hr.take (trimLen xs xs.length))
  have HT := Lib.hid (trim_any A cap xs w hc hr)
  have HD := Lib.hid hd
  clear hr hd
  by_cases h0 : (trimD xs).length = 0
  · have hz : ofD B64 xs = 0 := by
      rw [← ofD_trimD, List.eq_nil_of_length_eq_zero h0]; rfl
    have HZ := Lib.hid hz
    have H0 := Lib.hid h0
    clear hz
    go_enter Tryz.func285, Tryz.ntmps285
    go_wp2_with (go_at_call 202; refine HT.out.mono ?_; rintro e w' ⟨rfl, rfl⟩)
    go_ret
    rw [HZ.out]
    exact ⟨rfl, rfl⟩
  · obtain ⟨n, hn⟩ : ∃ n, (trimD xs).length = n + 1 := ⟨(trimD xs).length - 1, by omega⟩
    have hx : Rd w .u64 A (trimD xs) := HX.out
    obtain ⟨b, off, rfl, hcell⟩ := hx.at (j := n) (by omega)
    clear hx
    have hv := HD.out.trimD.getD (by decide) n
    have hnz : (trimD xs).getD n 0 ≠ 0 := by
      have := trimD_last (xs := xs) (by omega)
      rwa [hn] at this
    have HS := Lib.hid (by_top HD.out.trimD hn)
    have HT2 := HT
    clear HT
    rw [hn] at HT2
    have HN := Lib.hid hn
    have HNZ := Lib.hid hnz
    clear hn hnz h0
    have hle : n + 1 ≤ xs.length := by have := HN.out; omega
    generalize hg : (trimD xs).getD n 0 = v at *
    have HG := Lib.hid hg
    clear hg
    rw [B64_eq] at hv
    have hbl := bl64 hv
    have hb0 : ((((n + 1 : Nat) : Int)) == 0) = false := by rw [beq_eq_false_iff_ne]; omega
    go_enter Tryz.func285, Tryz.ntmps285
    go_wp2_with (first | (go_at_call 202; refine HT2.out.mono ?_; rintro e w' ⟨rfl, rfl⟩) | (go_at_call 343; refine (len64_any _ hv _).mono ?_; rintro e w' ⟨rfl, rfl⟩))
    go_ret
    refine ⟨?_, rfl⟩
    obtain ⟨r, hr1, hr2⟩ := HS.out
    rw [← ofD_trimD, hr2, bl_top hr1 HNZ.out]
    exact congrArg (fun z : Int => Ending.returned (.int .i64 z)) (by omega)

theorem bit_any (A : Option Addr) (cap : Nat) (xs : List Nat) (i : Nat) (hi : i < 9223372036854775807) (w : World) (hr : Rd w .u64 A xs) (hd : Digs B64 xs) :
    Calls Tryz.prog 286 #[.slice A xs.length cap, .int .i64 (i : Nat)] w fun e w' => e = .returned (.int .u64 ((ofD B64 xs / 2 ^ i % 2 : Nat) : Int)) ∧ w = w' := by
  have hl := hr.1
  by_cases hlt : i / 64 < xs.length
  · obtain ⟨b, off, rfl, hcell⟩ := hr.at (j := i / 64) hlt
    have hv := hd.getD (by decide) (i / 64)
    have HB := Lib.hid (bit_digit hd hlt)
    clear hr hd
    generalize hg : xs.getD (i / 64) 0 = v at *
    have HG := Lib.hid hg
    clear hg
    rw [B64_eq] at hv
    have HS := Lib.hid (shr_and1 v (i % 64) hv (by omega))
    go_enter Tryz.func286, Tryz.ntmps286
    go_wp2
    go_ret
    refine ⟨?_, rfl⟩
    rw [HB.out]
    exact congrArg (fun z : Int => Ending.returned (.int .u64 z)) HS.out
  · have hz : ofD B64 xs / 2 ^ i = 0 := by
      rw [Nat.div_eq_of_lt]
      refine Nat.lt_of_lt_of_le (ofD_lt hd) ?_
      rw [B64_2, ← Nat.pow_mul]
      exact Nat.pow_le_pow_right (by decide) (by omega)
    have HZ := Lib.hid hz
    clear hr hd hz
    go_enter Tryz.func286, Tryz.ntmps286
    go_wp2
    go_ret
    rw [HZ.out]
    exact ⟨rfl, rfl⟩

/-- -1, 0, 1. -/
def cmpI (a b : Nat) : Int := if a < b then -1 else if a = b then 0 else 1
def ordI (a b : Nat) : Int := if a < b then -1 else 1
theorem cmpI_eq (a : Nat) : cmpI a a = 0 := by unfold cmpI; simp
theorem cmpI_ord {a b : Nat} (h : a ≠ b) : cmpI a b = ordI a b := by unfold cmpI ordI; rw [if_neg h]
theorem ordI_lt {a b : Nat} (h : a < b) : ordI a b = -1 := if_pos h
theorem ordI_ge {a b : Nat} (h : b ≤ a) : ordI a b = 1 := if_neg (by omega)

theorem cmp_top {xs ys : List Nat} (hx : Digs B64 xs) (hy : Digs B64 ys) {k : Nat} (h : k < xs.length) (h' : k < ys.length) (hd : xs.drop (k + 1) = ys.drop (k + 1)) (e : xs.getD k 0 ≠ ys.getD k 0) : cmpI (ofD B64 xs) (ofD B64 ys) = ordI (xs.getD k 0) (ys.getD k 0) := by
  rcases Nat.lt_or_ge (xs.getD k 0) (ys.getD k 0) with l | l
  · have := lt_top (B := B64) hx h h' hd l
    rw [cmpI_ord (by omega), ordI_lt l, ordI_lt this]
  · have := lt_top (B := B64) hy h' h hd.symm (by omega)
    rw [cmpI_ord (by omega), ordI_ge l, ordI_ge (by omega)]

theorem cmp_len {us vs : List Nat} {a b : Nat} (_h : 0 ≤ 0) (hne : us.length ≠ vs.length) (ha : us = lm a) (hb : vs = lm b) : cmpI (ofD B64 us) (ofD B64 vs) = ordI us.length vs.length := by
  have key : ∀ {a b : Nat}, (lm a).length < (lm b).length → a < b := by
    intro a b h
    have h1 := lt_pow_dig B64_pos a
    have h2 := ofD_ge (B := B64) (xs := dig B64 b) (by decide) (by unfold lm at h; omega) (dig_last (by unfold lm at h; omega))
    rw [ofD_dig B64_pos] at h2
    have h3 : B64 ^ (dig B64 a).length ≤ B64 ^ ((dig B64 b).length - 1) := Nat.pow_le_pow_right (by decide) (by unfold lm at h; omega)
    omega
  subst ha; subst hb
  unfold lm
  rw [ofD_dig B64_pos, ofD_dig B64_pos]
  rcases Nat.lt_or_gt_of_ne hne with h | h
  · have := key h
    unfold lm at h
    rw [cmpI_ord (by omega), ordI_lt this, ordI_lt h]
  · have := key h
    unfold lm at h
    rw [cmpI_ord (by omega), ordI_ge (by omega), ordI_ge (by omega)]

theorem order_any (x y : Nat) (hx : x < 18446744073709551616) (hy : y < 18446744073709551616) (w : World) :
    Calls Tryz.prog 317 #[.int .u64 (x : Nat), .int .u64 (y : Nat)] w fun e w' => e = .returned (.int .i64 (ordI x y)) ∧ w = w' := by
  by_cases h : x < y
  · have hi : ((x : Nat) : Int) < ((y : Nat) : Int) := by omega
    rw [ordI_lt h]
    go_enter Tryz.func317, Tryz.ntmps317
    go_wp2
    go_ret
    exact ⟨rfl, rfl⟩
  · have hi : ¬ ((x : Nat) : Int) < ((y : Nat) : Int) := by omega
    rw [ordI_ge (by omega)]
    go_enter Tryz.func317, Tryz.ntmps317
    go_wp2
    go_ret
    exact ⟨rfl, rfl⟩

theorem Rd.drew {w : World} {k : IntKind} {A : Option Addr} {xs : List Nat} (h : Rd w k A xs) : Rd w.drew k A xs := h
theorem Rd.drewN {w : World} {k : IntKind} {A : Option Addr} {xs : List Nat} (h : Rd w k A xs) (n : Nat) : Rd (w.drewN n) k A xs := h
theorem Below.drewN' {B : Nat} {a w : World} (h : Below B a w) (n : Nat) : Below B a (w.drewN n) := ⟨h.os, h.tape, h.output, h.size, h.block⟩

theorem cmp_any (A A' : Option Addr) (cap cap' : Nat) (xs ys : List Nat) (w : World) (hc : xs.length ≤ cap) (hc' : ys.length ≤ cap') (hr : Rd w .u64 A xs) (hr' : Rd w .u64 A' ys) (hd : Digs B64 xs) (hd' : Digs B64 ys) :
    Calls Tryz.prog 242 #[.slice A xs.length cap, .slice A' ys.length cap'] w (Ret w (.int .i64 (cmpI (ofD B64 xs) (ofD B64 ys)))) := by
  have hl := Nat.le_trans (length_trimD_le xs) hr.1
  have hl' := Nat.le_trans (length_trimD_le ys) hr'.1
  have HX := Lib.hid (hr.take (trimLen xs xs.length))
  have HX' := Lib.hid (hr'.take (trimLen ys ys.length))
  have HT := fun v => Lib.hid (trim_any A cap xs v hc)
  have HT' := fun v => Lib.hid (trim_any A' cap' ys v hc')
  have HR := Lib.hid hr
  have HR' := Lib.hid hr'
  have HD := Lib.hid hd.trimD
  have HD' := Lib.hid hd'.trimD
  have HL := Lib.hid (trimD_lm hd)
  have HL' := Lib.hid (trimD_lm hd')
  have HC := HT w
  have HC' := HT' w
  clear HT HT'
  rw [← ofD_trimD B64 xs, ← ofD_trimD B64 ys]
  have HX : Hid (Rd w .u64 A (trimD xs)) := HX
  have HX' : Hid (Rd w .u64 A' (trimD ys)) := HX'
  generalize trimD xs = us at *
  generalize trimD ys = vs at *
  clear hr hr' hd hd'
  by_cases hlen : us.length = vs.length
  · have hb : (((us.length : Nat) : Int) != ((vs.length : Nat) : Int)) = false := by simp [hlen]
    have HLE := Lib.hid hlen
    clear hlen
    go_enter Tryz.func242, Tryz.ntmps242
    go_wp2_with fail
    refine (HC.out HR.out).mono ?_
    rintro e w' ⟨rfl, rfl⟩
    go_wp2_with fail
    refine (HC'.out HR'.out).mono ?_
    rintro e w' ⟨rfl, rfl⟩
    go_wp2
    go_loopw [5] (fun i wr => ∃ k : Nat, k ≤ us.length ∧ i = .int .i64 ((k : Int) - 1) ∧ Below w.heap.size w wr ∧ us.drop k = vs.drop k) (fun i _ => (intOf i + 1).toNat)
    case atStart => exact ⟨us.length, Nat.le_refl _, rfl, Below.refl _ _, by rw [List.drop_length, HLE.out, List.drop_length]⟩
    case round =>
      obtain ⟨k, hk, rfl, hb, hdr⟩ := hrel
      have HDR := Lib.hid hdr
      clear hdr
      rcases k with _ | k
      · have e : us = vs := by simpa using HDR.out
        go_wp2
        go_ret
        refine ⟨?_, hb⟩
        rw [e, cmpI_eq]
        rfl
      · have hkv : k < vs.length := by have := HLE.out; omega
        obtain ⟨b, off, rfl, hcell⟩ := (HX.out.below hb).at (j := k) (by omega)
        obtain ⟨b', off', rfl, hcell'⟩ := (HX'.out.below hb).at (j := k) hkv
        have h1 := HD.out.getD (by decide) k
        have h2 := HD'.out.getD (by decide) k
        rw [B64_eq] at h1 h2
        have HGE := Lib.hid (cmp_top HD.out HD'.out (by omega) hkv HDR.out)
        have HGN := Lib.hid (drop_same (xs := us) (ys := vs) (by omega) hkv HDR.out)
        by_cases heq : us.getD k 0 = vs.getD k 0
        · have HQ := Lib.hid heq
          have hbb : (((us.getD k 0 : Nat) : Int) != ((vs.getD k 0 : Nat) : Int)) = false := by rw [heq]; simp
          clear heq
          generalize us.getD k 0 = x at *
          generalize vs.getD k 0 = y at *
          go_wp2
          go_quiet (fail)
          go_wp2
          go_roundw
          case rel => exact ⟨k, by omega, by go_num, Below.drewN' hb _, HGN.out HQ.out⟩
          case measure => simp [intOf]
        · have HQ := Lib.hid heq
          have hbb : (((us.getD k 0 : Nat) : Int) != ((vs.getD k 0 : Nat) : Int)) = true := by rw [bne_iff_ne]; omega
          clear heq
          generalize us.getD k 0 = x at *
          generalize vs.getD k 0 = y at *
          go_wp2
          go_quiet (fail)
          go_wp2
          go_region_with (go_at_call 317; refine (order_any x y h1 h2 _).mono ?_; rintro e w' ⟨rfl, rfl⟩)
          all_goals
            go_wp2
            go_ret
            refine ⟨?_, (Below.drewN' hb _).drew⟩
            rw [HGE.out HQ.out]
            rfl
  · have hb : (((us.length : Nat) : Int) != ((vs.length : Nat) : Int)) = true := by rw [bne_iff_ne]; omega
    have HGE := Lib.hid (cmp_len (by omega) hlen HL.out HL'.out)
    go_enter Tryz.func242, Tryz.ntmps242
    go_wp2_with fail
    refine (HC.out HR.out).mono ?_
    rintro e w' ⟨rfl, rfl⟩
    go_wp2_with fail
    refine (HC'.out HR'.out).mono ?_
    rintro e w' ⟨rfl, rfl⟩
    go_wp2_with (go_at_call 317; refine (order_any us.length vs.length (by omega) (by omega) _).mono ?_; rintro e w' ⟨rfl, rfl⟩)
    go_ret
    exact ⟨by rw [HGE.out]; rfl, Below.refl _ _⟩
end Go.Proofs.YtjokcbjahidckaaGreat
/-! limb.Add, Sub, Mul: sums, differences, products. Conditions: the slices read as limbs below 2^64; what is subtracted is no greater. -/
namespace Go.Proofs.YtjokcbjahidckaaGreat
open Go.RowKit

theorem add64_ex (x y c : Nat) (hx : x < 18446744073709551616) (hy : y < 18446744073709551616) (hc : c ≤ 1) :
    ∃ s c' : Nat, s < 18446744073709551616 ∧ c' ≤ 1 ∧ x + y + c = s + B64 * c' ∧ ∀ w, (callFunc 251 #[.int .u64 (x : Int), .int .u64 (y : Int), .int .u64 (c : Int)]).run Tryz.prog w = .ok (.value (.tuple #[.int .u64 (s : Int), .int .u64 (c' : Int)])) w := by
  refine ⟨(x + y + c) % 18446744073709551616, (x + y + c) / 18446744073709551616, by omega, by omega, by rw [B64_eq]; omega, fun w => ?_⟩
  rw [run_add64_at x y c (by omega) (by omega) (by omega) (by omega)]
  congr 5 <;> omega
theorem add64_ex0 (x y : Nat) (hx : x < 18446744073709551616) (hy : y < 18446744073709551616) :
    ∃ s c' : Nat, s < 18446744073709551616 ∧ c' ≤ 1 ∧ x + y = s + B64 * c' ∧ ∀ w, (callFunc 251 #[.int .u64 (x : Int), .int .u64 (y : Int), .int .u64 0]).run Tryz.prog w = .ok (.value (.tuple #[.int .u64 (s : Int), .int .u64 (c' : Int)])) w := by
  obtain ⟨s, c, h1, h2, h3, h4⟩ := add64_ex x y 0 hx hy (by omega)
  exact ⟨s, c, h1, h2, h3, h4⟩
theorem sub64_ex (x y b : Nat) (hx : x < 18446744073709551616) (hy : y < 18446744073709551616) (hb : b ≤ 1) :
    ∃ d b' : Nat, d < 18446744073709551616 ∧ b' ≤ 1 ∧ x + B64 * b' = d + y + b ∧ ∀ w, (callFunc 356 #[.int .u64 (x : Int), .int .u64 (y : Int), .int .u64 (b : Int)]).run Tryz.prog w = .ok (.value (.tuple #[.int .u64 (d : Int), .int .u64 (b' : Int)])) w := by
  refine ⟨(x + 18446744073709551616 - y - b) % 18446744073709551616, if x < y + b then 1 else 0, by omega, by split <;> omega, by rw [B64_eq]; split <;> omega, fun w => ?_⟩
  rw [run_sub64_at x y b (by omega) (by omega) (by omega) (by omega) (by omega)]
  have e1 : ((x : Int) - y - b) % 18446744073709551616 = (((x + 18446744073709551616 - y - b) % 18446744073709551616 : Nat) : Int) := by omega
  have e2 : bor (x : Int) y b = ((if x < y + b then 1 else 0 : Nat) : Int) := by unfold bor; split <;> split <;> omega
  rw [e1, e2]
theorem sub64_ex0 (x y : Nat) (hx : x < 18446744073709551616) (hy : y < 18446744073709551616) :
    ∃ d b' : Nat, d < 18446744073709551616 ∧ b' ≤ 1 ∧ x + B64 * b' = d + y ∧ ∀ w, (callFunc 356 #[.int .u64 (x : Int), .int .u64 (y : Int), .int .u64 0]).run Tryz.prog w = .ok (.value (.tuple #[.int .u64 (d : Int), .int .u64 (b' : Int)])) w := by
  obtain ⟨s, c, h1, h2, h3, h4⟩ := sub64_ex x y 0 hx hy (by omega)
  exact ⟨s, c, h1, h2, h3, h4⟩
theorem mul64_ex (x y : Nat) (hx : x < 18446744073709551616) (hy : y < 18446744073709551616) :
    ∃ h l : Nat, h < 18446744073709551615 ∧ l < 18446744073709551616 ∧ x * y = l + B64 * h ∧ ∀ w, Calls Tryz.prog 250 #[.int .u64 (x : Int), .int .u64 (y : Int)] w fun e w' => e = .returned (.tuple #[.int .u64 (h : Int), .int .u64 (l : Int)]) ∧ w = w' := by
  have hm : x * y ≤ 18446744073709551615 * 18446744073709551615 := Nat.mul_le_mul (by omega) (by omega)
  refine ⟨x * y / 18446744073709551616, x * y % 18446744073709551616, by omega, by omega, by rw [B64_eq]; omega, fun w => ?_⟩
  exact (Tryz.bits_Mul64 x y hx hy w).mono fun e w' ⟨a, b⟩ => ⟨a, b.symm⟩

/-- limb.Add where the first is no shorter. -/
theorem add_loop (A A' : Option Addr) (cap cap' : Nat) (xs ys : List Nat) (w : World) (hlen : ys.length ≤ xs.length) (hs : xs.length < 1099511627776) (hr : Rd w .u64 A xs) (hr' : Rd w .u64 A' ys) (hd : Digs B64 xs) (hd' : Digs B64 ys) :
    Calls Tryz.prog 266 #[.slice A xs.length cap, .slice A' ys.length cap'] w (RetSl w .u64 (lm (ofD B64 xs + ofD B64 ys))) := by
  have hl := hr.1
  have HR := Lib.hid hr
  have HR' := Lib.hid hr'
  have HD := Lib.hid hd
  have HD' := Lib.hid hd'
  clear hr hr' hd hd'
  have hmk := mk64 (((xs.length : Nat) : Int) + 1) (xs.length + 1) (by omega) (by omega)
  have hnl : ¬ xs.length < ys.length := by omega
  go_enter Tryz.func266, Tryz.ntmps266
  go_wp2
  go_loopw [6, 7, 8, 22] (fun c _ _ i wr => ∃ (k cy : Nat) (zs : List Nat), k ≤ xs.length ∧ i = .int .i64 k ∧ c = .int .u64 cy ∧ cy ≤ 1 ∧ Below w.heap.size w wr ∧ Row wr w.heap.size .u64 22 zs ∧ zs.length = xs.length + 1 ∧ Digs B64 zs ∧ ofD B64 (zs.take k) + B64 ^ k * cy = ofD B64 (xs.take k) + ofD B64 (ys.take k)) (fun _ _ _ i _ => xs.length - (intOf i).toNat)
  case atStart => exact ⟨0, 0, List.replicate (xs.length + 1) 0, Nat.zero_le _, rfl, rfl, by omega, (Below.refl _ _).alloc (Nat.le_refl _) _, Row.alloc rfl, by simp, Digs.replicate (by decide) _, by simp [ofD]⟩
  case round =>
    obtain ⟨k, cy, zs, hk, rfl, rfl, hcy, hb, hrow, hzl, hdz, hval⟩ := hrel
    have HL := Lib.hid hzl
    have HV := Lib.hid hval
    clear hzl hval
    by_cases hlt : k < xs.length
    · obtain ⟨b, off, rfl, hcell⟩ := (HR.out.below hb).at hlt
      have hx := HD.out.getD (by decide) k
      have hy := HD'.out.getD (by decide) k
      rw [B64_eq] at hx hy
      obtain ⟨s, c', hs1, hc1, he, hadd⟩ := add64_ex _ _ cy hx hy hcy
      have hzk : k < zs.length := by have := HL.out; omega
      have hc2 := hrow.cell hzk
      have hf2 := hrow.frozen k
      have HVN : Hid (ofD B64 ((zs.set k s).take (k + 1)) + B64 ^ (k + 1) * c' = ofD B64 (xs.take (k + 1)) + ofD B64 (ys.take (k + 1))) := by
        show _ = _
        rw [ofD_take_set hzk, ofD_take_getD xs, ofD_take_getD ys, Nat.pow_succ, Nat.mul_assoc]
        have h1 := HV.out
        have h2 := congrArg (B64 ^ k * ·) he
        simp only [Nat.mul_add] at h2
        omega
      clear he
      by_cases hyk : k < ys.length
      · obtain ⟨b', off', rfl, hcell'⟩ := (HR'.out.below hb).at hyk
        generalize xs.getD k 0 = x at *
        generalize ys.getD k 0 = y at *
        go_wp2
        go_roundw
        case rel => exact ⟨k + 1, c', zs.set k s, hlt, by go_num, rfl, hc1, hb.setCell (Nat.le_refl _) _, hrow.set k s, by rw [List.length_set]; exact HL.out, hdz.set _ (by rw [B64_eq]; exact hs1), HVN.out⟩
        case measure => simp [intOf]; omega
      · have h0 : ys.getD k 0 = 0 := by rw [List.getD_eq_getElem?_getD, List.getElem?_eq_none (by omega)]; rfl
        simp only [h0, show ((0 : Nat) : Int) = 0 from rfl] at hadd
        clear h0
        generalize xs.getD k 0 = x at *
        go_wp2
        go_roundw
        case rel => exact ⟨k + 1, c', zs.set k s, hlt, by go_num, rfl, hc1, hb.setCell (Nat.le_refl _) _, hrow.set k s, by rw [List.length_set]; exact HL.out, hdz.set _ (by rw [B64_eq]; exact hs1), HVN.out⟩
        case measure => simp [intOf]; omega
    · have hkk : k = xs.length := by omega
      subst hkk
      have hzk : xs.length < zs.length := by have := HL.out; omega
      have hc2 := hrow.cell hzk
      have hf2 := hrow.frozen xs.length
      have hrow2 := hrow.set xs.length cy
      have hdz2 : Digs B64 (zs.set xs.length cy) := hdz.set _ (by rw [B64_eq]; omega)
      have HE : Hid (ofD B64 (zs.set xs.length cy) = ofD B64 xs + ofD B64 ys) := by
        show _ = _
        have h1 := ofD_take_set (B := B64) (v := cy) hzk
        rw [List.take_of_length_le (by rw [List.length_set, HL.out]; exact Nat.le_refl _)] at h1
        have h2 := HV.out
        rw [List.take_length, ofD_take_all ys hlen] at h2
        omega
      have hlen2 : (zs.set xs.length cy).length = xs.length + 1 := by rw [List.length_set]; exact HL.out
      have HT := Lib.hid (trim_sl (.slice (some ⟨w.heap.size, 0, none⟩) (xs.length + 1) (xs.length + 1)) _ (wr.setCell ⟨w.heap.size, xs.length, none⟩ (.int .u64 cy)) hdz2 ⟨_, _, by rw [hlen2], by rw [hlen2]; exact Nat.le_refl _, hrow2.rd (by omega), nofun⟩)
      have HB2 := Lib.hid (hb.setCell (p := ⟨w.heap.size, xs.length, none⟩) (Nat.le_refl _) (.int .u64 cy))
      clear hlen2
      go_wp2_with fail
      refine HT.out.mono ?_
      rintro e w' ⟨rfl, v, rfl, hbv, hsl⟩
      go_wp2
      go_ret
      refine ⟨v, rfl, HB2.out, ?_⟩
      rw [← HE.out]
      exact hsl

/-- limb.Add where the second is longer. -/
theorem add_swap (A A' : Option Addr) (cap cap' : Nat) (xs ys : List Nat) (w : World) (hgt : xs.length < ys.length) (hs : ys.length < 1099511627776) (hr : Rd w .u64 A xs) (hr' : Rd w .u64 A' ys) (hd : Digs B64 xs) (hd' : Digs B64 ys) :
    Calls Tryz.prog 266 #[.slice A xs.length cap, .slice A' ys.length cap'] w (RetSl w .u64 (lm (ofD B64 xs + ofD B64 ys))) := by
  have hl := hr'.1
  have HR' := Lib.hid hr'
  have HR := Lib.hid hr
  have HD' := Lib.hid hd'
  have HD := Lib.hid hd
  clear hr hr' hd hd'
  have hmk := mk64 (((ys.length : Nat) : Int) + 1) (ys.length + 1) (by omega) (by omega)
  have hlen : xs.length ≤ ys.length := by omega
  go_enter Tryz.func266, Tryz.ntmps266
  go_wp2
  go_loopw [6, 7, 8, 22] (fun c _ _ i wr => ∃ (k cy : Nat) (zs : List Nat), k ≤ ys.length ∧ i = .int .i64 k ∧ c = .int .u64 cy ∧ cy ≤ 1 ∧ Below w.heap.size w wr ∧ Row wr w.heap.size .u64 22 zs ∧ zs.length = ys.length + 1 ∧ Digs B64 zs ∧ ofD B64 (zs.take k) + B64 ^ k * cy = ofD B64 (ys.take k) + ofD B64 (xs.take k)) (fun _ _ _ i _ => ys.length - (intOf i).toNat)
  case atStart => exact ⟨0, 0, List.replicate (ys.length + 1) 0, Nat.zero_le _, rfl, rfl, by omega, (Below.refl _ _).alloc (Nat.le_refl _) _, Row.alloc rfl, by simp, Digs.replicate (by decide) _, by simp [ofD]⟩
  case round =>
    obtain ⟨k, cy, zs, hk, rfl, rfl, hcy, hb, hrow, hzl, hdz, hval⟩ := hrel
    have HL := Lib.hid hzl
    have HV := Lib.hid hval
    clear hzl hval
    by_cases hlt : k < ys.length
    · obtain ⟨b, off, rfl, hcell⟩ := (HR'.out.below hb).at hlt
      have hx := HD'.out.getD (by decide) k
      have hy := HD.out.getD (by decide) k
      rw [B64_eq] at hx hy
      obtain ⟨s, c', hs1, hc1, he, hadd⟩ := add64_ex _ _ cy hx hy hcy
      have hzk : k < zs.length := by have := HL.out; omega
      have hc2 := hrow.cell hzk
      have hf2 := hrow.frozen k
      have HVN : Hid (ofD B64 ((zs.set k s).take (k + 1)) + B64 ^ (k + 1) * c' = ofD B64 (ys.take (k + 1)) + ofD B64 (xs.take (k + 1))) := by
        show _ = _
        rw [ofD_take_set hzk, ofD_take_getD ys, ofD_take_getD xs, Nat.pow_succ, Nat.mul_assoc]
        have h1 := HV.out
        have h2 := congrArg (B64 ^ k * ·) he
        simp only [Nat.mul_add] at h2
        omega
      clear he
      by_cases hyk : k < xs.length
      · obtain ⟨b', off', rfl, hcell'⟩ := (HR.out.below hb).at hyk
        generalize ys.getD k 0 = x at *
        generalize xs.getD k 0 = y at *
        go_wp2
        go_roundw
        case rel => exact ⟨k + 1, c', zs.set k s, hlt, by go_num, rfl, hc1, hb.setCell (Nat.le_refl _) _, hrow.set k s, by rw [List.length_set]; exact HL.out, hdz.set _ (by rw [B64_eq]; exact hs1), HVN.out⟩
        case measure => simp [intOf]; omega
      · have h0 : xs.getD k 0 = 0 := by rw [List.getD_eq_getElem?_getD, List.getElem?_eq_none (by omega)]; rfl
        simp only [h0, show ((0 : Nat) : Int) = 0 from rfl] at hadd
        clear h0
        generalize ys.getD k 0 = x at *
        go_wp2
        go_roundw
        case rel => exact ⟨k + 1, c', zs.set k s, hlt, by go_num, rfl, hc1, hb.setCell (Nat.le_refl _) _, hrow.set k s, by rw [List.length_set]; exact HL.out, hdz.set _ (by rw [B64_eq]; exact hs1), HVN.out⟩
        case measure => simp [intOf]; omega
    · have hkk : k = ys.length := by omega
      subst hkk
      have hzk : ys.length < zs.length := by have := HL.out; omega
      have hc2 := hrow.cell hzk
      have hf2 := hrow.frozen ys.length
      have hrow2 := hrow.set ys.length cy
      have hdz2 : Digs B64 (zs.set ys.length cy) := hdz.set _ (by rw [B64_eq]; omega)
      have HE : Hid (ofD B64 (zs.set ys.length cy) = ofD B64 ys + ofD B64 xs) := by
        show _ = _
        have h1 := ofD_take_set (B := B64) (v := cy) hzk
        rw [List.take_of_length_le (by rw [List.length_set, HL.out]; exact Nat.le_refl _)] at h1
        have h2 := HV.out
        rw [List.take_length, ofD_take_all xs hlen] at h2
        omega
      have hlen2 : (zs.set ys.length cy).length = ys.length + 1 := by rw [List.length_set]; exact HL.out
      have HT := Lib.hid (trim_sl (.slice (some ⟨w.heap.size, 0, none⟩) (ys.length + 1) (ys.length + 1)) _ (wr.setCell ⟨w.heap.size, ys.length, none⟩ (.int .u64 cy)) hdz2 ⟨_, _, by rw [hlen2], by rw [hlen2]; exact Nat.le_refl _, hrow2.rd (by omega), nofun⟩)
      have HB2 := Lib.hid (hb.setCell (p := ⟨w.heap.size, ys.length, none⟩) (Nat.le_refl _) (.int .u64 cy))
      clear hlen2
      go_wp2_with fail
      refine HT.out.mono ?_
      rintro e w' ⟨rfl, v, rfl, hbv, hsl⟩
      go_wp2
      go_ret
      refine ⟨v, rfl, HB2.out, ?_⟩
      rw [Nat.add_comm, ← HE.out]
      exact hsl

theorem add_any (A A' : Option Addr) (cap cap' : Nat) (xs ys : List Nat) (w : World) (hs : xs.length < 1099511627776) (hs' : ys.length < 1099511627776) (hr : Rd w .u64 A xs) (hr' : Rd w .u64 A' ys) (hd : Digs B64 xs) (hd' : Digs B64 ys) :
    Calls Tryz.prog 266 #[.slice A xs.length cap, .slice A' ys.length cap'] w (RetSl w .u64 (lm (ofD B64 xs + ofD B64 ys))) := by
  by_cases h : xs.length < ys.length
  · exact add_swap A A' cap cap' xs ys w h hs' hr hr' hd hd'
  · exact add_loop A A' cap cap' xs ys w (by omega) hs hr hr' hd hd'

/-- limb.Sub. -/
theorem sub_any (A A' : Option Addr) (cap cap' : Nat) (xs ys : List Nat) (w : World) (hc : xs.length ≤ cap) (hc' : ys.length ≤ cap') (hle : ofD B64 ys ≤ ofD B64 xs) (hr : Rd w .u64 A xs) (hr' : Rd w .u64 A' ys) (hd : Digs B64 xs) (hd' : Digs B64 ys) :
    Calls Tryz.prog 301 #[.slice A xs.length cap, .slice A' ys.length cap'] w (RetSl w .u64 (lm (ofD B64 xs - ofD B64 ys))) := by
  have hl := Nat.le_trans (length_trimD_le xs) hr.1
  have HT := Lib.hid (trim_any A cap xs w hc hr)
  have HT' := Lib.hid (trim_any A' cap' ys w hc' hr')
  have HR : Hid (Rd w .u64 A (trimD xs)) := hr.take _
  have HR' : Hid (Rd w .u64 A' (trimD ys)) := hr'.take _
  have HD := Lib.hid hd.trimD
  have HD' := Lib.hid hd'.trimD
  rw [← ofD_trimD B64 xs, ← ofD_trimD B64 ys] at *
  have hlen : (trimD ys).length ≤ (trimD xs).length := by
    rcases Nat.lt_or_ge (trimD xs).length (trimD ys).length with h | h
    · exfalso
      have h1 := ofD_ge (B := B64) (xs := trimD ys) (by decide) (by omega) (trimD_last (by omega))
      have h2 := ofD_lt HD.out
      have h3 : B64 ^ (trimD xs).length ≤ B64 ^ ((trimD ys).length - 1) := Nat.pow_le_pow_right (by decide) (by omega)
      omega
    · exact h
  have HLE := Lib.hid hle
  clear hr hr' hd hd' hle
  generalize trimD xs = us at *
  generalize trimD ys = vs at *
  have hmk := mk64 ((us.length : Nat) : Int) us.length rfl (by omega)
  go_enter Tryz.func301, Tryz.ntmps301
  go_wp2_with fail
  refine HT.out.mono ?_
  rintro e w' ⟨rfl, rfl⟩
  go_wp2_with fail
  refine HT'.out.mono ?_
  rintro e w' ⟨rfl, rfl⟩
  go_wp2
  go_loopw [6, 7, 8, 18] (fun c _ _ i wr => ∃ (k cy : Nat) (zs : List Nat), k ≤ us.length ∧ i = .int .i64 k ∧ c = .int .u64 cy ∧ cy ≤ 1 ∧ Below w.heap.size w wr ∧ Row wr w.heap.size .u64 22 zs ∧ zs.length = us.length ∧ Digs B64 zs ∧ ofD B64 (us.take k) + B64 ^ k * cy = ofD B64 (zs.take k) + ofD B64 (vs.take k)) (fun _ _ _ i _ => us.length - (intOf i).toNat)
  case atStart => exact ⟨0, 0, List.replicate us.length 0, Nat.zero_le _, rfl, rfl, by omega, (Below.refl _ _).alloc (Nat.le_refl _) _, Row.alloc rfl, by simp, Digs.replicate (by decide) _, by simp [ofD]⟩
  case round =>
    obtain ⟨k, cy, zs, hk, rfl, rfl, hcy, hb, hrow, hzl, hdz, hval⟩ := hrel
    have HL := Lib.hid hzl
    have HV := Lib.hid hval
    clear hzl hval
    by_cases hlt : k < us.length
    · obtain ⟨b, off, rfl, hcell⟩ := (HR.out.below hb).at hlt
      have hx := HD.out.getD (by decide) k
      have hy := HD'.out.getD (by decide) k
      rw [B64_eq] at hx hy
      obtain ⟨s, c', hs1, hc1, he, hadd⟩ := sub64_ex _ _ cy hx hy hcy
      have hzk : k < zs.length := by have := HL.out; omega
      have hc2 := hrow.cell hzk
      have hf2 := hrow.frozen k
      have HVN : Hid (ofD B64 (us.take (k + 1)) + B64 ^ (k + 1) * c' = ofD B64 ((zs.set k s).take (k + 1)) + ofD B64 (vs.take (k + 1))) := by
        show _ = _
        rw [ofD_take_set hzk, ofD_take_getD us, ofD_take_getD vs, Nat.pow_succ, Nat.mul_assoc]
        have h1 := HV.out
        have h2 := congrArg (B64 ^ k * ·) he
        simp only [Nat.mul_add] at h2
        omega
      clear he
      by_cases hyk : k < vs.length
      · obtain ⟨b', off', rfl, hcell'⟩ := (HR'.out.below hb).at hyk
        generalize us.getD k 0 = x at *
        generalize vs.getD k 0 = y at *
        go_wp2
        go_roundw
        case rel => exact ⟨k + 1, c', zs.set k s, hlt, by go_num, rfl, hc1, hb.setCell (Nat.le_refl _) _, hrow.set k s, by rw [List.length_set]; exact HL.out, hdz.set _ (by rw [B64_eq]; exact hs1), HVN.out⟩
        case measure => simp [intOf]; omega
      · have h0 : vs.getD k 0 = 0 := by rw [List.getD_eq_getElem?_getD, List.getElem?_eq_none (by omega)]; rfl
        simp only [h0, show ((0 : Nat) : Int) = 0 from rfl] at hadd
        clear h0
        generalize us.getD k 0 = x at *
        go_wp2
        go_roundw
        case rel => exact ⟨k + 1, c', zs.set k s, hlt, by go_num, rfl, hc1, hb.setCell (Nat.le_refl _) _, hrow.set k s, by rw [List.length_set]; exact HL.out, hdz.set _ (by rw [B64_eq]; exact hs1), HVN.out⟩
        case measure => simp [intOf]; omega
    · have hkk : k = us.length := by omega
      subst hkk
      have HE : Hid (ofD B64 zs = ofD B64 us - ofD B64 vs) := by
        show _ = _
        have h2 := HV.out
        rw [List.take_length, ofD_take_all vs hlen, ofD_take_all zs (by rw [HL.out]; exact Nat.le_refl _)] at h2
        have h3 := ofD_lt hdz
        rw [HL.out] at h3
        have h4 := HLE.out
        have : cy = 0 ∨ cy = 1 := by omega
        rcases this with rfl | rfl <;> omega
      have HT2 := Lib.hid (trim_sl (.slice (some ⟨w.heap.size, 0, none⟩) us.length us.length) _ wr hdz ⟨_, _, by rw [HL.out], by rw [HL.out]; exact Nat.le_refl _, hrow.rd (by have := HL.out; omega), nofun⟩)
      have HB2 := Lib.hid hb
      go_wp2_with fail
      refine HT2.out.mono ?_
      rintro e w' ⟨rfl, v, rfl, hbv, hsl⟩
      go_wp2
      go_ret
      refine ⟨v, rfl, HB2.out, ?_⟩
      rw [← HE.out]
      exact hsl

theorem mul_carry {x y a cy h l s1 c1 s2 c2 : Nat} (hx : x < 18446744073709551616) (hy : y < 18446744073709551616) (ha : a < 18446744073709551616) (hcy : cy < 18446744073709551616)
    (e1 : x * y = l + B64 * h) (e2 : l + a = s1 + B64 * c1) (e3 : s1 + cy = s2 + B64 * c2) : h + c1 + c2 < 18446744073709551616 := by
  have hm : x * y ≤ 18446744073709551615 * 18446744073709551615 := Nat.mul_le_mul (by omega) (by omega)
  rw [B64_eq] at *
  omega

theorem mul_step {U U' Z k j cy x Y Y' y a h l s1 c1 s2 c2 : Nat} (e0 : U + B64 ^ (k + j) * cy = Z + B64 ^ k * (x * Y)) (es : U' + B64 ^ (k + j) * a = U + B64 ^ (k + j) * s2)
    (ey : Y' = Y + B64 ^ j * y) (e1 : x * y = l + B64 * h) (e2 : l + a = s1 + B64 * c1) (e3 : s1 + cy = s2 + B64 * c2) : U' + B64 ^ (k + (j + 1)) * (h + c1 + c2) = Z + B64 ^ k * (x * Y') := by
  subst ey
  have p1 : B64 ^ (k + (j + 1)) = B64 ^ (k + j) * B64 := by rw [← Nat.add_assoc, Nat.pow_succ]
  have p2 : B64 ^ k * (x * (Y + B64 ^ j * y)) = B64 ^ k * (x * Y) + B64 ^ (k + j) * (x * y) := by rw [Nat.pow_add]; simp only [Nat.mul_add, Nat.mul_assoc, Nat.mul_left_comm]
  rw [p1, p2, e1]
  generalize B64 ^ (k + j) = P at *
  generalize B64 ^ k * (x * Y) = Q at *
  have t : P * (s2 + B64 * (h + c1 + c2)) + P * 0 = P * (l + B64 * h + a + cy) := by rw [Nat.mul_zero, Nat.add_zero]; congr 1; simp only [Nat.mul_add]; omega
  simp only [Nat.mul_add, Nat.mul_assoc] at *
  omega

/-- limb.Mul. -/
theorem mul_any (A A' : Option Addr) (cap cap' : Nat) (xs ys : List Nat) (w : World) (hs : xs.length + ys.length < 1099511627776) (hr : Rd w .u64 A xs) (hr' : Rd w .u64 A' ys) (hd : Digs B64 xs) (hd' : Digs B64 ys) :
    Calls Tryz.prog 256 #[.slice A xs.length cap, .slice A' ys.length cap'] w (RetSl w .u64 (lm (ofD B64 xs * ofD B64 ys))) := by
  have HR := Lib.hid hr
  have HR' := Lib.hid hr'
  have HD := Lib.hid hd
  have HD' := Lib.hid hd'
  clear hr hr' hd hd'
  have hmk := mk64 (((xs.length : Nat) : Int) + ((ys.length : Nat) : Int)) (xs.length + ys.length) (by omega) (by omega)
  go_enter Tryz.func256, Tryz.ntmps256
  go_wp2
  go_loopw [22] (fun i wr => ∃ (k : Nat) (zs : List Nat), k ≤ xs.length ∧ i = .int .i64 k ∧ Below w.heap.size w wr ∧ Row wr w.heap.size .u64 22 zs ∧ zs.length = xs.length + ys.length ∧ Digs B64 zs ∧ ofD B64 zs = ofD B64 (xs.take k) * ofD B64 ys ∧ ∀ j, k + ys.length ≤ j → zs.getD j 0 = 0) (fun i _ => xs.length - (intOf i).toNat)
  case atStart => exact ⟨0, List.replicate (xs.length + ys.length) 0, Nat.zero_le _, rfl, (Below.refl _ _).alloc (Nat.le_refl _) _, Row.alloc rfl, by simp, Digs.replicate (by decide) _, by rw [ofD_replicate]; simp [ofD], fun j _ => by rw [List.getD_eq_getElem?_getD, List.getElem?_replicate]; split <;> rfl⟩
  case round =>
    obtain ⟨k, zs, hk, rfl, hb, hrow, hzl, hdz, hval, hz0⟩ := hrel
    have HL := Lib.hid hzl
    have HV := Lib.hid hval
    have HZ := Lib.hid hz0
    have HROW := Lib.hid hrow
    have HDZ := Lib.hid hdz
    clear hzl hval hz0 hrow hdz
    by_cases hlt : k < xs.length
    · obtain ⟨b, off, rfl, hcell⟩ := (HR.out.below hb).at hlt
      have hx := HD.out.getD (by decide) k
      rw [B64_eq] at hx
      have HXK := Lib.hid (ofD_take_getD (B := B64) xs k)
      generalize xs.getD k 0 = x at *
      obtain ⟨wo, rfl⟩ : ∃ wo : World, wo = wr := ⟨_, rfl⟩
      go_wp2
      go_loopw [8, 29] (fun c i wr => ∃ (j cy : Nat) (us : List Nat), j ≤ ys.length ∧ i = .int .i64 j ∧ c = .int .u64 cy ∧ cy < 18446744073709551616 ∧ Below w.heap.size w wr ∧ Row wr w.heap.size .u64 22 us ∧ us.length = xs.length + ys.length ∧ Digs B64 us ∧ ofD B64 us + B64 ^ (k + j) * cy = ofD B64 zs + B64 ^ k * (x * ofD B64 (ys.take j)) ∧ ∀ p, k + ys.length ≤ p → us.getD p 0 = 0) (fun _ i _ => ys.length - (intOf i).toNat)
      case atStart => exact ⟨0, 0, zs, Nat.zero_le _, rfl, rfl, by omega, hb, HROW.out, HL.out, HDZ.out, by simp [ofD], HZ.out⟩
      case round =>
        obtain ⟨j, cy, us, hj, rfl, rfl, hcy, hbi, hrowi, hul, hdu, huval, hu0⟩ := hrel
        have HUL := Lib.hid hul
        have HUV := Lib.hid huval
        have HU0 := Lib.hid hu0
        clear hul huval hu0
        by_cases hjt : j < ys.length
        · obtain ⟨b', off', rfl, hcell'⟩ := (HR'.out.below hbi).at hjt
          have hy := HD'.out.getD (by decide) j
          rw [B64_eq] at hy
          have HYK := Lib.hid (ofD_take_getD (B := B64) ys j)
          have hkj : k + j < us.length := by have := HUL.out; omega
          have hc2 := hrowi.cell hkj
          have hf2 := hrowi.frozen (k + j)
          have ha := hdu.getD (by decide) (k + j)
          rw [B64_eq] at ha
          have HSET := fun v => Lib.hid (ofD_set (B := B64) (xs := us) (i := k + j) (v := v) hkj)
          generalize ys.getD j 0 = y at *
          generalize us.getD (k + j) 0 = a at *
          obtain ⟨h, l, hh, hl1, hm1, hmul⟩ := mul64_ex x y hx hy
          obtain ⟨s1, c1, hs1, hc1, hm2, hadd1⟩ := add64_ex0 l a hl1 ha
          obtain ⟨s2, c2, hs2, hc2', hm3, hadd2⟩ := add64_ex0 s1 cy hs1 hcy
          have hbig : h + c1 + c2 < 18446744073709551616 := mul_carry hx hy ha hcy hm1 hm2 hm3
          have hbig1 : h + c1 < 18446744073709551616 := by omega
          have HN : Hid (ofD B64 (us.set (k + j) s2) + B64 ^ (k + (j + 1)) * (h + c1 + c2) = ofD B64 zs + B64 ^ k * (x * ofD B64 (ys.take (j + 1)))) :=
            mul_step HUV.out (HSET s2).out HYK.out hm1 hm2 hm3
          have HM := fun w => Lib.hid (hmul w)
          clear hm1 hm2 hm3 HSET hmul
          go_wp2_with (go_at_call 250; refine (HM _).out.mono ?_; rintro e w' ⟨rfl, rfl⟩)
          go_roundw
          case rel => exact ⟨j + 1, h + c1 + c2, us.set (k + j) s2, hjt, by go_num, by go_num, hbig, hbi.setCell (Nat.le_refl _) _, hrowi.set _ s2, by rw [List.length_set]; exact HUL.out, hdu.set _ (by rw [B64_eq]; exact hs2), HN.out, fun p hp => by
            rw [List.getD_eq_getElem?_getD, List.getElem?_set_ne (by omega), ← List.getD_eq_getElem?_getD]; exact HU0.out p hp⟩
          case measure => simp [intOf]; omega
        · have hjj : j = ys.length := by omega
          subst hjj
          have hkj : k + ys.length < us.length := by have := HUL.out; omega
          have hc2 := hrowi.cell hkj
          have hf2 := hrowi.frozen (k + ys.length)
          have h00 := HU0.out (k + ys.length) (Nat.le_refl _)
          have HN : Hid (ofD B64 (us.set (k + ys.length) cy) = ofD B64 (xs.take (k + 1)) * ofD B64 ys) := by
            show _ = _
            have h1 := ofD_set (B := B64) (xs := us) (i := k + ys.length) (v := cy) hkj
            rw [h00] at h1
            have h2 := HUV.out
            rw [List.take_length, HV.out] at h2
            rw [HXK.out, Nat.add_mul, Nat.mul_assoc]
            omega
          clear h00
          go_wp2
          go_roundw
          case rel => exact ⟨k + 1, us.set (k + ys.length) cy, hlt, by go_num, hbi.setCell (Nat.le_refl _) _, hrowi.set _ cy, by rw [List.length_set]; exact HUL.out, hdu.set _ (by rw [B64_eq]; exact hcy), HN.out, fun p hp => by
            rw [List.getD_eq_getElem?_getD, List.getElem?_set_ne (by omega), ← List.getD_eq_getElem?_getD]; exact HU0.out p (by omega)⟩
          case measure => simp [intOf]; omega
    · have hkk : k = xs.length := by omega
      subst hkk
      have HT2 := Lib.hid (trim_sl (.slice (some ⟨w.heap.size, 0, none⟩) (xs.length + ys.length) (xs.length + ys.length)) _ wr HDZ.out ⟨_, _, by rw [HL.out], by rw [HL.out]; exact Nat.le_refl _, HROW.out.rd (by have := HL.out; omega), nofun⟩)
      have HB2 := Lib.hid hb
      go_wp2_with fail
      refine HT2.out.mono ?_
      rintro e w' ⟨rfl, v, rfl, hbv, hsl⟩
      go_wp2
      go_ret
      refine ⟨v, rfl, HB2.out, ?_⟩
      have := HV.out
      rw [List.take_length] at this
      rw [← this]
      exact hsl
end Go.Proofs.YtjokcbjahidckaaGreat
/-! math/bits.Div64: the quotient and what is left, where the upper word is below the divisor. -/
namespace Go.Proofs.YtjokcbjahidckaaGreat
open Go.RowKit

theorem lz_any (v : Nat) (hv : v < 18446744073709551616) (w : World) : Calls Tryz.prog 345 #[.int .u64 (v : Nat)] w fun e w' => e = .returned (.int .i64 ((64 - bl v : Nat) : Int)) ∧ w = w' := by
  refine (Tryz.bits_LeadingZeros64 _ w (by omega) (by omega)).mono ?_
  rintro e w' ⟨rfl, rfl⟩
  refine ⟨?_, rfl⟩
  have := bl64 hv
  rw [Int.toNat_natCast, bitLen_bl (by rw [B64_eq]; exact hv)]
  exact congrArg (fun z : Int => Ending.returned (.int .i64 z)) (by omega)

/-- A plain value comes back; some orders have been drawn. -/
def RetD (w : World) (v : Value) (e : Ending) (w' : World) : Prop := e = .returned v ∧ ∃ n, w' = w.drewN n

/-- The normal form of a division of two words by one. -/
structure DivN (hi lo y s Y yn1 yn0 H l1 U D un1 un0 : Nat) : Prop where
  eY : IntKind.u64.wrap ((y : Int) * 2 ^ s) = (Y : Int)
  Y1 : 9223372036854775808 ≤ Y
  Y2 : Y < 18446744073709551616
  ey1 : (Y : Int) / 4294967296 = (yn1 : Int)
  ey0 : bits .and .u64 (Y : Int) 4294967295 = (yn0 : Int)
  b1 : 2147483648 ≤ yn1
  b2 : yn1 < 4294967296
  b3 : yn0 < 4294967296
  Yd : Y = yn1 * 4294967296 + yn0
  eH : IntKind.u64.wrap ((hi : Int) * 2 ^ s) = (H : Int)
  el : (lo : Int) / 2 ^ (64 - s) = (l1 : Int)
  eU : bits .or .u64 (H : Int) (l1 : Int) = (U : Int)
  eD : IntKind.u64.wrap ((lo : Int) * 2 ^ s) = (D : Int)
  ed1 : (D : Int) / 4294967296 = (un1 : Int)
  ed0 : bits .and .u64 (D : Int) 4294967295 = (un0 : Int)
  u1 : un1 < 4294967296
  u0 : un0 < 4294967296
  UY : U < Y
  N : (hi * B64 + lo) * 2 ^ s = U * B64 + un1 * 4294967296 + un0
  Ye : Y = y * 2 ^ s

theorem div_norm (hi lo y s L : Nat) (hlo : lo < 18446744073709551616) (hlt : hi < y) (hL : 0 < L ∧ L ≤ 64) (hs : s = 64 - L) (hy : 2 ^ (L - 1) ≤ y ∧ y < 2 ^ L) :
    ∃ Y yn1 yn0 H l1 U D un1 un0, Hid (DivN hi lo y s Y yn1 yn0 H l1 U D un1 un0) := by
  have p64 : (2 : Nat) ^ 64 = 18446744073709551616 := by decide
  have p63 : (2 : Nat) ^ 63 = 9223372036854775808 := by decide
  have hps : 0 < 2 ^ s := Nat.pow_pos (by decide)
  have hY1 : 9223372036854775808 ≤ y * 2 ^ s := by
    have := Nat.mul_le_mul_right (2 ^ s) hy.1
    rw [← Nat.pow_add, show L - 1 + s = 63 from by omega, p63] at this
    exact this
  have hY2 : y * 2 ^ s < 18446744073709551616 := by
    have := Nat.mul_lt_mul_of_pos_right hy.2 hps
    rw [← Nat.pow_add, show L + s = 64 from by omega, p64] at this
    exact this
  have hH : (hi + 1) * 2 ^ s ≤ y * 2 ^ s := Nat.mul_le_mul_right _ hlt
  rw [Nat.add_mul, Nat.one_mul] at hH
  have hsp : 2 ^ (64 - s) * 2 ^ s = 18446744073709551616 := by rw [← Nat.pow_add, show 64 - s + s = 64 from by omega, p64]
  have hl1 : lo / 2 ^ (64 - s) < 2 ^ s := by
    rw [Nat.div_lt_iff_lt_mul (Nat.pow_pos (by decide)), Nat.mul_comm, hsp]; exact hlo
  have cp : ∀ a k : Nat, (a : Int) * 2 ^ k = ((a * 2 ^ k : Nat) : Int) := fun a k => by rw [Int.natCast_mul, Int.natCast_pow]; rfl
  have hDn : lo * 2 ^ s = (lo / 2 ^ (64 - s)) * 18446744073709551616 + lo * 2 ^ s % 18446744073709551616 := by
    have h1 : lo * 2 ^ s / 18446744073709551616 = lo / 2 ^ (64 - s) := by rw [← hsp, Nat.mul_div_mul_right _ _ hps]
    have := Nat.div_add_mod (lo * 2 ^ s) 18446744073709551616
    rw [h1] at this; omega
  have hU : hi * 2 ^ s + lo / 2 ^ (64 - s) < y * 2 ^ s := by omega
  refine ⟨y * 2 ^ s, y * 2 ^ s / 4294967296, y * 2 ^ s % 4294967296, hi * 2 ^ s, lo / 2 ^ (64 - s), hi * 2 ^ s + lo / 2 ^ (64 - s), lo * 2 ^ s % 18446744073709551616, lo * 2 ^ s % 18446744073709551616 / 4294967296, lo * 2 ^ s % 18446744073709551616 % 4294967296, ?_⟩
  have mk : ∀ a : Nat, a < 18446744073709551616 → bits .and .u64 (a : Int) 4294967295 = ((a % 4294967296 : Nat) : Int) := fun a ha => by
    have := u64_and_nat a 4294967295 ha (by decide)
    rw [show a &&& 4294967295 = a % 4294967296 from Nat.and_two_pow_sub_one_eq_mod a 32] at this
    exact this
  exact {
    eY := by rw [cp, IntKind.wrap_u64]; omega
    Y1 := hY1
    Y2 := hY2
    ey1 := by omega
    ey0 := mk _ hY2
    b1 := by omega
    b2 := by omega
    b3 := by omega
    Yd := by omega
    eH := by rw [cp, IntKind.wrap_u64]; omega
    el := by rw [Int.natCast_ediv, Int.natCast_pow]; rfl
    eU := by
      rw [u64_or_nat _ _ (by omega) (by omega), nat_join s _ _ (Nat.mul_mod_left _ _) hl1]
    eD := by rw [cp, IntKind.wrap_u64]; omega
    ed1 := by omega
    ed0 := mk _ (Nat.mod_lt _ (by decide))
    u1 := by omega
    u0 := by omega
    UY := hU
    N := by rw [B64_eq, Nat.add_mul, Nat.mul_right_comm, hDn, Nat.add_mul]; omega
    Ye := rfl }

/-- What a round of the guess keeps: q is no less than the quotient's digit. -/
def DInv (U Y yn1 u0 q r : Nat) : Prop := q * yn1 + r = U ∧ r < 4294967296 ∧ U * 4294967296 + u0 < (q + 1) * Y ∧ q < 18446744073709551616
/-- q is the digit, V what is left. -/
def DFin (U Y u0 q V : Nat) : Prop := U * 4294967296 + u0 = q * Y + V ∧ V < Y ∧ q < 4294967296

theorem DFin.of {U Y u0 q : Nat} (hUY : U < Y) (h0 : u0 < 4294967296) (h1 : q * Y ≤ U * 4294967296 + u0) (h2 : U * 4294967296 + u0 < (q + 1) * Y) : ∃ V, DFin U Y u0 q V := by
  refine ⟨U * 4294967296 + u0 - q * Y, ?_, ?_, ?_⟩
  · omega
  · rw [Nat.add_mul, Nat.one_mul] at h2; omega
  · have h3 : q * Y < 4294967296 * Y := by omega
    exact Nat.lt_of_mul_lt_mul_right h3

theorem div_start (U Y yn1 yn0 u0 : Nat) (hY2 : Y < 18446744073709551616) (hUY : U < Y) (h0 : u0 < 4294967296) (hb1 : 2147483648 ≤ yn1) (hb2 : yn1 < 4294967296) (hYd : Y = yn1 * 4294967296 + yn0) :
    ∃ q p r : Nat, (U : Int) / (yn1 : Int) = (q : Int) ∧ q < 18446744073709551616 ∧ IntKind.u64.wrap ((q : Int) * (yn1 : Int)) = (p : Int) ∧ p ≤ U ∧ (U : Int) - (p : Int) = (r : Int) ∧ Hid (DInv U Y yn1 u0 q r) := by
  have h1 := Nat.div_add_mod U yn1
  have h2 := Nat.mod_lt U (show 0 < yn1 by omega)
  have h3 := Nat.div_le_self U yn1
  have h4 : U / yn1 * yn1 = yn1 * (U / yn1) := Nat.mul_comm _ _
  refine ⟨U / yn1, U / yn1 * yn1, U % yn1, (Int.natCast_ediv _ _).symm, by omega, ?_, by omega, by omega, ?_, by omega, ?_, by omega⟩
  · rw [← Int.natCast_mul, IntKind.wrap_u64]; omega
  · omega
  · have h5 : U < (U / yn1 + 1) * yn1 := by rw [Nat.add_mul, Nat.one_mul]; omega
    have h6 := Nat.mul_le_mul_right 4294967296 (show U + 1 ≤ (U / yn1 + 1) * yn1 from h5)
    rw [hYd, Nat.mul_add, ← Nat.mul_assoc]
    generalize (U / yn1 + 1) * yn1 = z at *
    generalize (U / yn1 + 1) * yn0 = x at *
    omega

theorem DInv.step {U Y yn1 yn0 u0 q r : Nat} (hUY : U < Y) (h0 : u0 < 4294967296) (hYd : Y = yn1 * 4294967296 + yn0) (hb3 : yn0 < 4294967296)
    (h : DInv U Y yn1 u0 q r) (ht : 4294967296 ≤ q ∨ 4294967296 * r + u0 < q * yn0) :
    1 ≤ q ∧ (r + yn1 < 4294967296 → DInv U Y yn1 u0 (q - 1) (r + yn1)) ∧ (4294967296 ≤ r + yn1 → ∃ V, DFin U Y u0 (q - 1) V) := by
  obtain ⟨e, hr, hT, hq⟩ := h
  have hq1 : 1 ≤ q := by
    rcases ht with ht | ht
    · omega
    · rcases q with _ | q
      · simp at ht
      · omega
  obtain ⟨k, rfl⟩ : ∃ k, q = k + 1 := ⟨q - 1, by omega⟩
  have hT2 : U * 4294967296 + u0 < (k + 1) * Y := by
    rcases ht with ht | ht
    · have := Nat.mul_le_mul_right Y ht
      omega
    · have : (k + 1) * Y = (k + 1) * yn1 * 4294967296 + (k + 1) * yn0 := by rw [hYd, Nat.mul_add, Nat.mul_assoc]
      rw [this]
      generalize (k + 1) * yn1 = z at *
      generalize (k + 1) * yn0 = x at *
      omega
  have ek : (k + 1) * yn1 = k * yn1 + yn1 := by rw [Nat.add_mul, Nat.one_mul]
  refine ⟨by omega, fun hlt => ⟨by simp only [Nat.add_sub_cancel]; omega, hlt, hT2, by omega⟩, fun hge => ?_⟩
  simp only [Nat.add_sub_cancel]
  refine DFin.of hUY h0 ?_ hT2
  have e1 : k * Y = k * yn1 * 4294967296 + k * yn0 := by rw [hYd, Nat.mul_add, Nat.mul_assoc]
  have hk : k < 4294967296 := by
    have : k * yn1 < 4294967296 * yn1 := by omega
    exact Nat.lt_of_mul_lt_mul_right this
  have : k * yn0 ≤ 4294967295 * 4294967296 := Nat.mul_le_mul (by omega) (by omega)
  rw [e1]
  generalize k * yn1 = z at *
  generalize k * yn0 = x at *
  omega

theorem DInv.done {U Y yn1 yn0 u0 q r : Nat} (hUY : U < Y) (h0 : u0 < 4294967296) (hYd : Y = yn1 * 4294967296 + yn0) (h : DInv U Y yn1 u0 q r) (ht : q * yn0 ≤ 4294967296 * r + u0) : ∃ V, DFin U Y u0 q V := by
  obtain ⟨e, hr, hT, hq⟩ := h
  refine DFin.of hUY h0 ?_ hT
  have e1 : q * Y = q * yn1 * 4294967296 + q * yn0 := by rw [hYd, Nat.mul_add, Nat.mul_assoc]
  rw [e1]
  generalize q * yn1 = z at *
  generalize q * yn0 = x at *
  omega

/-- The wrapped difference is what is left. -/
theorem DFin.wrap {U Y u0 q V : Nat} (h : DFin U Y u0 q V) (hY : Y < 18446744073709551616) :
    IntKind.u64.wrap (IntKind.u64.wrap (IntKind.u64.wrap ((U : Int) * 4294967296) + (u0 : Int)) - IntKind.u64.wrap ((q : Int) * (Y : Int))) = (V : Int) := by
  obtain ⟨e, hV, _⟩ := h
  have e' : (U : Int) * 4294967296 + (u0 : Int) = (q : Int) * (Y : Int) + (V : Int) := by
    have := congrArg (fun n : Nat => (n : Int)) e
    simpa using this
  simp only [IntKind.wrap_u64]
  generalize (q : Int) * (Y : Int) = z at *
  omega

theorem two_digits {P U u1 u0 z V x W : Nat} (a : U * P + u1 = z + V) (b : V * P + u0 = x + W) : U * (P * P) + u1 * P + u0 = z * P + x + W := by
  have d := congrArg (· * P) a
  simp only [Nat.add_mul] at d
  rw [← Nat.mul_assoc]
  omega

/-- Both digits together: the quotient, and what is left. -/
theorem DFin.both {hi lo y s Y yn1 yn0 H l1 U D un1 un0 k V k' W : Nat} (h : DivN hi lo y s Y yn1 yn0 H l1 U D un1 un0) (h1 : DFin U Y un1 k V) (h2 : DFin V Y un0 k' W) :
    (hi * B64 + lo) / y = k * 4294967296 + k' ∧ W = (hi * B64 + lo) % y * 2 ^ s := by
  have hps : 0 < 2 ^ s := Nat.pow_pos (by decide)
  have hy0 : 0 < y := by
    rcases Nat.eq_zero_or_pos y with h0 | h0
    · have := h.Ye; have := h.Y1; rw [h0] at *; omega
    · exact h0
  have e : (hi * B64 + lo) * 2 ^ s = (k * 4294967296 + k') * Y + W := by
    rw [h.N, show B64 = 4294967296 * 4294967296 from by decide]
    have a := h1.1
    have b := h2.1
    rw [Nat.add_mul, Nat.mul_right_comm]
    exact two_digits a b
  have hW := h2.2.1
  rw [h.Ye] at e hW
  have hd : (hi * B64 + lo) * 2 ^ s / (y * 2 ^ s) = k * 4294967296 + k' := by
    rw [e, Nat.mul_comm (k * 4294967296 + k'), Nat.mul_add_div (Nat.mul_pos hy0 hps), Nat.div_eq_of_lt hW, Nat.add_zero]
  rw [Nat.mul_div_mul_right _ _ hps] at hd
  refine ⟨hd, ?_⟩
  have h3 := Nat.div_add_mod (hi * B64 + lo) y
  rw [hd] at h3
  generalize hi * B64 + lo = n at *
  generalize k * 4294967296 + k' = q at *
  have h4 := congrArg (· * 2 ^ s) h3
  simp only [Nat.add_mul] at h4
  rw [e, Nat.mul_comm y q, Nat.mul_assoc] at h4
  omega
theorem DFin.quo {hi lo y s Y yn1 yn0 H l1 U D un1 un0 k V k' W : Nat} (h : DivN hi lo y s Y yn1 yn0 H l1 U D un1 un0) (h1 : DFin U Y un1 k V) (h2 : DFin V Y un0 k' W) :
    IntKind.u64.wrap ((k : Int) * 4294967296 + (k' : Int)) = (((hi * B64 + lo) / y : Nat) : Int) := by
  rw [(DFin.both h h1 h2).1, IntKind.wrap_u64]
  have := h1.2.2
  have := h2.2.2
  omega
theorem DFin.rem {hi lo y s Y yn1 yn0 H l1 U D un1 un0 k V k' W : Nat} (h : DivN hi lo y s Y yn1 yn0 H l1 U D un1 un0) (h1 : DFin U Y un1 k V) (h2 : DFin V Y un0 k' W) :
    (W : Int) / 2 ^ s = (((hi * B64 + lo) % y : Nat) : Int) := by
  have e := (DFin.both h h1 h2).2
  have hps : 0 < 2 ^ s := Nat.pow_pos (by decide)
  have : (W : Int) / 2 ^ s = ((W / 2 ^ s : Nat) : Int) := by rw [Int.natCast_ediv, Int.natCast_pow]; rfl
  rw [this, e, Nat.mul_div_cancel _ hps]

theorem div_prod {q r u0 yn0 : Nat} (hq : q < 4294967296) (hb3 : yn0 < 4294967296) (_hr : r < 4294967296) (_h0 : u0 < 4294967296) :
    ∃ m1 : Nat, IntKind.u64.wrap ((q : Int) * (yn0 : Int)) = (m1 : Int) ∧
      (4294967296 * r + u0 < q * yn0 → 4294967296 * (r : Int) + (u0 : Int) < (m1 : Int)) ∧ (¬ 4294967296 * r + u0 < q * yn0 → ¬ 4294967296 * (r : Int) + (u0 : Int) < (m1 : Int)) := by
  have h : q * yn0 ≤ 4294967295 * 4294967295 := Nat.mul_le_mul (by omega) (by omega)
  refine ⟨q * yn0, ?_, ?_, ?_⟩
  · rw [← Int.natCast_mul, IntKind.wrap_u64]; omega
  · intro h; omega
  · intro h; omega

set_option maxHeartbeats 2000000 in
set_option maxRecDepth 100000 in
theorem div64_any (hi lo y : Nat) (hlo : lo < 18446744073709551616) (hy : y < 18446744073709551616) (hlt : hi < y) (w : World) :
    Calls Tryz.prog 370 #[.int .u64 (hi : Nat), .int .u64 (lo : Nat), .int .u64 (y : Nat)] w (RetD w (.tuple #[.int .u64 (((hi * B64 + lo) / y : Nat) : Int), .int .u64 (((hi * B64 + lo) % y : Nat) : Int)])) := by
  have hy0 : (((y : Nat) : Int) == 0) = false := by rw [beq_eq_false_iff_ne]; omega
  have hle : ¬ ((y : Nat) : Int) ≤ ((hi : Nat) : Int) := by omega
  obtain ⟨Q, hQ⟩ : ∃ Q, Q = (hi * B64 + lo) / y := ⟨_, rfl⟩
  obtain ⟨R, hR⟩ : ∃ R, R = (hi * B64 + lo) % y := ⟨_, rfl⟩
  rw [← hQ, ← hR]
  have HQ := Lib.hid hQ
  have HR := Lib.hid hR
  clear hQ hR
  by_cases h0 : hi = 0
  · have hh0 : (((hi : Nat) : Int) == 0) = true := by rw [h0]; rfl
    have hq : lo / y = Q := by rw [HQ.out, h0]; simp
    have hr : lo % y = R := by rw [HR.out, h0]; simp
    have hq' : IntKind.u64.wrap ((lo : Int) / (y : Int)) = (Q : Int) := by
      have : (lo : Int) / (y : Int) = ((lo / y : Nat) : Int) := (Int.natCast_ediv _ _).symm
      have h2 := Nat.div_le_self lo y
      rw [this, hq, IntKind.wrap_u64]; omega
    have hr' : (lo : Int) % (y : Int) = (R : Int) := by rw [← Int.natCast_emod, hr]
    clear h0 hq hr
    go_enter Tryz.func370, Tryz.ntmps370
    go_wp2
    go_quiet (fail)
    go_wp2
    go_ret2
    rw [hr']
    exact ⟨rfl, _, rfl⟩
  · have hh0 : (((hi : Nat) : Int) == 0) = false := by rw [beq_eq_false_iff_ne]; omega
    have hbl := bl64 hy
    have HLZ := fun w => Lib.hid (lz_any y hy w)
    have hbp := bl_pos (n := y) (by omega)
    have HBL := Lib.hid (bl_spec (n := y) (by omega))
    generalize bl y = L at *
    obtain ⟨s, hs⟩ : ∃ s, s = 64 - L := ⟨_, rfl⟩
    rw [← hs] at HLZ
    have hs63 : s ≤ 63 := by omega
    obtain ⟨Y, yn1, yn0, H, l1, U, D, un1, un0, HF⟩ := div_norm hi lo y s L hlo hlt (by omega) hs HBL.out
    have hY1 := HF.out.Y1
    have hY2 := HF.out.Y2
    have eY := HF.out.eY
    have ey1 := HF.out.ey1
    have ey0 := HF.out.ey0
    have hb1 := HF.out.b1
    have hb2 := HF.out.b2
    have hb3 := HF.out.b3
    have eH := HF.out.eH
    have el := HF.out.el
    have eU := HF.out.eU
    have eD := HF.out.eD
    have ed1 := HF.out.ed1
    have ed0 := HF.out.ed0
    have hu1 := HF.out.u1
    have hu0 := HF.out.u0
    have hUY := HF.out.UY
    have hYd := Lib.hid HF.out.Yd
    obtain ⟨q, p, r, g1, g2, g3, g4, g5, HG⟩ := div_start U Y yn1 yn0 un1 hY2 hUY hu1 hb1 hb2 HF.out.Yd
    clear hs h0
    go_enter Tryz.func370, Tryz.ntmps370
    go_wp2_with fail
    refine (HLZ _).out.mono ?_
    rintro e w' ⟨rfl, rfl⟩
    go_wp2_with fail
    go_loop [15, 16] (fun a b => ∃ q r : Nat, a = .int .u64 q ∧ b = .int .u64 r ∧ Hid (DInv U Y yn1 un1 q r)) (fun a _ => (intOf a).toNat)
    case atStart => exact ⟨q, r, rfl, rfl, HG⟩
    case round =>
      clear g1 g2 g3 g4 g5 HG
      obtain ⟨q, r, rfl, rfl, HI⟩ := hrel
      have hr := HI.out.2.1
      have hq := HI.out.2.2.2
      by_cases t1 : 4294967296 ≤ q
      · have t1' : decide ((4294967296 : Int) ≤ (q : Int)) = true := decide_eq_true (by omega)
        obtain ⟨k1, k2, k3⟩ := HI.out.step hUY hu1 hYd.out hb3 (.inl t1)
        obtain ⟨k, hk⟩ : ∃ k, k = q - 1 := ⟨_, rfl⟩
        have ek : (q : Int) - 1 = (k : Int) := by omega
        rw [← hk] at k2 k3
        have K2 := Lib.hid k2
        have K3 := Lib.hid k3
        have HK := Lib.hid hk
        clear k2 k3 hk
        by_cases t2 : 4294967296 ≤ r + yn1
        · have t2' : decide ((4294967296 : Int) ≤ (r : Int) + (yn1 : Int)) = true := decide_eq_true (by omega)
          obtain ⟨V, HV⟩ := K3.out t2
          clear t2 t1
          have eV := HV.wrap hY2
          have hVY := HV.2.1
          have hk32 := HV.2.2
          have HV1 := Lib.hid HV
          clear HV HI
          obtain ⟨q2, p2, r2, g1, g2, g3, g4, g5, HG⟩ := div_start V Y yn1 yn0 un0 hY2 hVY hu0 hb1 hb2 hYd.out
          go_wp2_with fail
          go_loop [18, 16] (fun a b => ∃ q r : Nat, a = .int .u64 q ∧ b = .int .u64 r ∧ Hid (DInv V Y yn1 un0 q r)) (fun a _ => (intOf a).toNat)
          case atStart => exact ⟨q2, r2, rfl, rfl, HG⟩
          case round =>
            clear g1 g2 g3 g4 g5 HG eV
            obtain ⟨q, r, rfl, rfl, HI⟩ := hrel
            have hr := HI.out.2.1
            have hq := HI.out.2.2.2
            by_cases t1 : 4294967296 ≤ q
            · have t1' : decide ((4294967296 : Int) ≤ (q : Int)) = true := decide_eq_true (by omega)
              obtain ⟨k1, k2, k3⟩ := HI.out.step hVY hu0 hYd.out hb3 (.inl t1)
              obtain ⟨k', hk⟩ : ∃ k, k = q - 1 := ⟨_, rfl⟩
              have ek : (q : Int) - 1 = (k' : Int) := by omega
              rw [← hk] at k2 k3
              have K2 := Lib.hid k2
              have K3 := Lib.hid k3
              have HK := Lib.hid hk
              clear k2 k3 hk
              by_cases t2 : 4294967296 ≤ r + yn1
              · have t2' : decide ((4294967296 : Int) ≤ (r : Int) + (yn1 : Int)) = true := decide_eq_true (by omega)
                obtain ⟨W, HW⟩ := K3.out t2
                clear t2 t1
                have eW := HW.wrap hY2
                have hk32' := HW.2.2
                have eR := DFin.rem HF.out HV1.out HW
                have eQ := DFin.quo HF.out HV1.out HW
                rw [← HR.out] at eR
                rw [← HQ.out] at eQ
                have HW1 := Lib.hid HW
                clear HW
                go_wp2_with fail
                all_goals (go_ret2; exact ⟨rfl, 0, rfl⟩)
              · have t2' : decide ((4294967296 : Int) ≤ (r : Int) + (yn1 : Int)) = false := decide_eq_false (by omega)
                have HN := Lib.hid (K2.out (by omega))
                clear t2 t1
                go_wp2_with fail
                go_round
                case rel => exact ⟨k', r + yn1, by go_num, by go_num, HN⟩
                case measure => simp [intOf]; have := HK.out; omega
            · have t1' : decide ((4294967296 : Int) ≤ (q : Int)) = false := decide_eq_false (by omega)
              obtain ⟨m1, e1, ht3, ht4⟩ := div_prod (q := q) (r := r) (u0 := un0) (yn0 := yn0) (by omega) hb3 hr hu0
              by_cases t4 : 4294967296 * r + un0 < q * yn0
              · have t4' : decide (4294967296 * (r : Int) + (un0 : Int) < (m1 : Int)) = true := decide_eq_true (ht3 t4)
                clear ht3 ht4 t1
                obtain ⟨k1, k2, k3⟩ := HI.out.step hVY hu0 hYd.out hb3 (.inr t4)
                obtain ⟨k', hk⟩ : ∃ k, k = q - 1 := ⟨_, rfl⟩
                have ek : (q : Int) - 1 = (k' : Int) := by omega
                rw [← hk] at k2 k3
                have K2 := Lib.hid k2
                have K3 := Lib.hid k3
                have HK := Lib.hid hk
                clear k2 k3 hk
                by_cases t2 : 4294967296 ≤ r + yn1
                · have t2' : decide ((4294967296 : Int) ≤ (r : Int) + (yn1 : Int)) = true := decide_eq_true (by omega)
                  obtain ⟨W, HW⟩ := K3.out t2
                  clear t2 t4
                  have eW := HW.wrap hY2
                  have hk32' := HW.2.2
                  have eR := DFin.rem HF.out HV1.out HW
                  have eQ := DFin.quo HF.out HV1.out HW
                  rw [← HR.out] at eR
                  rw [← HQ.out] at eQ
                  have HW1 := Lib.hid HW
                  clear HW
                  go_wp2_with fail
                  all_goals (go_ret2; exact ⟨rfl, 0, rfl⟩)
                · have t2' : decide ((4294967296 : Int) ≤ (r : Int) + (yn1 : Int)) = false := decide_eq_false (by omega)
                  have HN := Lib.hid (K2.out (by omega))
                  clear t2 t4
                  go_wp2_with fail
                  go_round
                  case rel => exact ⟨k', r + yn1, by go_num, by go_num, HN⟩
                  case measure => simp [intOf]; have := HK.out; omega
              · have t4' : decide (4294967296 * (r : Int) + (un0 : Int) < (m1 : Int)) = false := decide_eq_false (ht4 t4)
                obtain ⟨W, HW⟩ := HI.out.done hVY hu0 hYd.out (by omega)
                obtain ⟨k', rfl⟩ : ∃ k, k = q := ⟨_, rfl⟩
                clear t1 ht3 ht4 t4
                have eW := HW.wrap hY2
                have hk32' := HW.2.2
                have eR := DFin.rem HF.out HV1.out HW
                have eQ := DFin.quo HF.out HV1.out HW
                rw [← HR.out] at eR
                rw [← HQ.out] at eQ
                have HW1 := Lib.hid HW
                clear HW
                go_wp2_with fail
                all_goals (go_ret2; exact ⟨rfl, 0, rfl⟩)
        · have t2' : decide ((4294967296 : Int) ≤ (r : Int) + (yn1 : Int)) = false := decide_eq_false (by omega)
          have HN := Lib.hid (K2.out (by omega))
          clear t2 t1
          go_wp2_with fail
          go_round
          case rel => exact ⟨k, r + yn1, by go_num, by go_num, HN⟩
          case measure => simp [intOf]; have := HK.out; omega
      · have t1' : decide ((4294967296 : Int) ≤ (q : Int)) = false := decide_eq_false (by omega)
        obtain ⟨m1, e1, ht3, ht4⟩ := div_prod (q := q) (r := r) (u0 := un1) (yn0 := yn0) (by omega) hb3 hr hu1
        by_cases t4 : 4294967296 * r + un1 < q * yn0
        · have t4' : decide (4294967296 * (r : Int) + (un1 : Int) < (m1 : Int)) = true := decide_eq_true (ht3 t4)
          clear ht3 ht4 t1
          obtain ⟨k1, k2, k3⟩ := HI.out.step hUY hu1 hYd.out hb3 (.inr t4)
          obtain ⟨k, hk⟩ : ∃ k, k = q - 1 := ⟨_, rfl⟩
          have ek : (q : Int) - 1 = (k : Int) := by omega
          rw [← hk] at k2 k3
          have K2 := Lib.hid k2
          have K3 := Lib.hid k3
          have HK := Lib.hid hk
          clear k2 k3 hk
          by_cases t2 : 4294967296 ≤ r + yn1
          · have t2' : decide ((4294967296 : Int) ≤ (r : Int) + (yn1 : Int)) = true := decide_eq_true (by omega)
            obtain ⟨V, HV⟩ := K3.out t2
            clear t2 t4
            have eV := HV.wrap hY2
            have hVY := HV.2.1
            have hk32 := HV.2.2
            have HV1 := Lib.hid HV
            clear HV HI
            obtain ⟨q2, p2, r2, g1, g2, g3, g4, g5, HG⟩ := div_start V Y yn1 yn0 un0 hY2 hVY hu0 hb1 hb2 hYd.out
            go_wp2_with fail
            go_loop [18, 16] (fun a b => ∃ q r : Nat, a = .int .u64 q ∧ b = .int .u64 r ∧ Hid (DInv V Y yn1 un0 q r)) (fun a _ => (intOf a).toNat)
            case atStart => exact ⟨q2, r2, rfl, rfl, HG⟩
            case round =>
              clear g1 g2 g3 g4 g5 HG eV
              obtain ⟨q, r, rfl, rfl, HI⟩ := hrel
              have hr := HI.out.2.1
              have hq := HI.out.2.2.2
              by_cases t1 : 4294967296 ≤ q
              · have t1' : decide ((4294967296 : Int) ≤ (q : Int)) = true := decide_eq_true (by omega)
                obtain ⟨k1, k2, k3⟩ := HI.out.step hVY hu0 hYd.out hb3 (.inl t1)
                obtain ⟨k', hk⟩ : ∃ k, k = q - 1 := ⟨_, rfl⟩
                have ek : (q : Int) - 1 = (k' : Int) := by omega
                rw [← hk] at k2 k3
                have K2 := Lib.hid k2
                have K3 := Lib.hid k3
                have HK := Lib.hid hk
                clear k2 k3 hk
                by_cases t2 : 4294967296 ≤ r + yn1
                · have t2' : decide ((4294967296 : Int) ≤ (r : Int) + (yn1 : Int)) = true := decide_eq_true (by omega)
                  obtain ⟨W, HW⟩ := K3.out t2
                  clear t2 t1
                  have eW := HW.wrap hY2
                  have hk32' := HW.2.2
                  have eR := DFin.rem HF.out HV1.out HW
                  have eQ := DFin.quo HF.out HV1.out HW
                  rw [← HR.out] at eR
                  rw [← HQ.out] at eQ
                  have HW1 := Lib.hid HW
                  clear HW
                  go_wp2_with fail
                  all_goals (go_ret2; exact ⟨rfl, 0, rfl⟩)
                · have t2' : decide ((4294967296 : Int) ≤ (r : Int) + (yn1 : Int)) = false := decide_eq_false (by omega)
                  have HN := Lib.hid (K2.out (by omega))
                  clear t2 t1
                  go_wp2_with fail
                  go_round
                  case rel => exact ⟨k', r + yn1, by go_num, by go_num, HN⟩
                  case measure => simp [intOf]; have := HK.out; omega
              · have t1' : decide ((4294967296 : Int) ≤ (q : Int)) = false := decide_eq_false (by omega)
                obtain ⟨m1, e1, ht3, ht4⟩ := div_prod (q := q) (r := r) (u0 := un0) (yn0 := yn0) (by omega) hb3 hr hu0
                by_cases t4 : 4294967296 * r + un0 < q * yn0
                · have t4' : decide (4294967296 * (r : Int) + (un0 : Int) < (m1 : Int)) = true := decide_eq_true (ht3 t4)
                  clear ht3 ht4 t1
                  obtain ⟨k1, k2, k3⟩ := HI.out.step hVY hu0 hYd.out hb3 (.inr t4)
                  obtain ⟨k', hk⟩ : ∃ k, k = q - 1 := ⟨_, rfl⟩
                  have ek : (q : Int) - 1 = (k' : Int) := by omega
                  rw [← hk] at k2 k3
                  have K2 := Lib.hid k2
                  have K3 := Lib.hid k3
                  have HK := Lib.hid hk
                  clear k2 k3 hk
                  by_cases t2 : 4294967296 ≤ r + yn1
                  · have t2' : decide ((4294967296 : Int) ≤ (r : Int) + (yn1 : Int)) = true := decide_eq_true (by omega)
                    obtain ⟨W, HW⟩ := K3.out t2
                    clear t2 t4
                    have eW := HW.wrap hY2
                    have hk32' := HW.2.2
                    have eR := DFin.rem HF.out HV1.out HW
                    have eQ := DFin.quo HF.out HV1.out HW
                    rw [← HR.out] at eR
                    rw [← HQ.out] at eQ
                    have HW1 := Lib.hid HW
                    clear HW
                    go_wp2_with fail
                    all_goals (go_ret2; exact ⟨rfl, 0, rfl⟩)
                  · have t2' : decide ((4294967296 : Int) ≤ (r : Int) + (yn1 : Int)) = false := decide_eq_false (by omega)
                    have HN := Lib.hid (K2.out (by omega))
                    clear t2 t4
                    go_wp2_with fail
                    go_round
                    case rel => exact ⟨k', r + yn1, by go_num, by go_num, HN⟩
                    case measure => simp [intOf]; have := HK.out; omega
                · have t4' : decide (4294967296 * (r : Int) + (un0 : Int) < (m1 : Int)) = false := decide_eq_false (ht4 t4)
                  obtain ⟨W, HW⟩ := HI.out.done hVY hu0 hYd.out (by omega)
                  obtain ⟨k', rfl⟩ : ∃ k, k = q := ⟨_, rfl⟩
                  clear t1 ht3 ht4 t4
                  have eW := HW.wrap hY2
                  have hk32' := HW.2.2
                  have eR := DFin.rem HF.out HV1.out HW
                  have eQ := DFin.quo HF.out HV1.out HW
                  rw [← HR.out] at eR
                  rw [← HQ.out] at eQ
                  have HW1 := Lib.hid HW
                  clear HW
                  go_wp2_with fail
                  all_goals (go_ret2; exact ⟨rfl, 0, rfl⟩)
          · have t2' : decide ((4294967296 : Int) ≤ (r : Int) + (yn1 : Int)) = false := decide_eq_false (by omega)
            have HN := Lib.hid (K2.out (by omega))
            clear t2 t4
            go_wp2_with fail
            go_round
            case rel => exact ⟨k, r + yn1, by go_num, by go_num, HN⟩
            case measure => simp [intOf]; have := HK.out; omega
        · have t4' : decide (4294967296 * (r : Int) + (un1 : Int) < (m1 : Int)) = false := decide_eq_false (ht4 t4)
          obtain ⟨V, HV⟩ := HI.out.done hUY hu1 hYd.out (by omega)
          obtain ⟨k, rfl⟩ : ∃ k, k = q := ⟨_, rfl⟩
          clear t1 ht3 ht4 t4
          have eV := HV.wrap hY2
          have hVY := HV.2.1
          have hk32 := HV.2.2
          have HV1 := Lib.hid HV
          clear HV HI
          obtain ⟨q2, p2, r2, g1, g2, g3, g4, g5, HG⟩ := div_start V Y yn1 yn0 un0 hY2 hVY hu0 hb1 hb2 hYd.out
          go_wp2_with fail
          go_loop [18, 16] (fun a b => ∃ q r : Nat, a = .int .u64 q ∧ b = .int .u64 r ∧ Hid (DInv V Y yn1 un0 q r)) (fun a _ => (intOf a).toNat)
          case atStart => exact ⟨q2, r2, rfl, rfl, HG⟩
          case round =>
            clear g1 g2 g3 g4 g5 HG eV
            obtain ⟨q, r, rfl, rfl, HI⟩ := hrel
            have hr := HI.out.2.1
            have hq := HI.out.2.2.2
            by_cases t1 : 4294967296 ≤ q
            · have t1' : decide ((4294967296 : Int) ≤ (q : Int)) = true := decide_eq_true (by omega)
              obtain ⟨k1, k2, k3⟩ := HI.out.step hVY hu0 hYd.out hb3 (.inl t1)
              obtain ⟨k', hk⟩ : ∃ k, k = q - 1 := ⟨_, rfl⟩
              have ek : (q : Int) - 1 = (k' : Int) := by omega
              rw [← hk] at k2 k3
              have K2 := Lib.hid k2
              have K3 := Lib.hid k3
              have HK := Lib.hid hk
              clear k2 k3 hk
              by_cases t2 : 4294967296 ≤ r + yn1
              · have t2' : decide ((4294967296 : Int) ≤ (r : Int) + (yn1 : Int)) = true := decide_eq_true (by omega)
                obtain ⟨W, HW⟩ := K3.out t2
                clear t2 t1
                have eW := HW.wrap hY2
                have hk32' := HW.2.2
                have eR := DFin.rem HF.out HV1.out HW
                have eQ := DFin.quo HF.out HV1.out HW
                rw [← HR.out] at eR
                rw [← HQ.out] at eQ
                have HW1 := Lib.hid HW
                clear HW
                go_wp2_with fail
                all_goals (go_ret2; exact ⟨rfl, 0, rfl⟩)
              · have t2' : decide ((4294967296 : Int) ≤ (r : Int) + (yn1 : Int)) = false := decide_eq_false (by omega)
                have HN := Lib.hid (K2.out (by omega))
                clear t2 t1
                go_wp2_with fail
                go_round
                case rel => exact ⟨k', r + yn1, by go_num, by go_num, HN⟩
                case measure => simp [intOf]; have := HK.out; omega
            · have t1' : decide ((4294967296 : Int) ≤ (q : Int)) = false := decide_eq_false (by omega)
              obtain ⟨m1, e1, ht3, ht4⟩ := div_prod (q := q) (r := r) (u0 := un0) (yn0 := yn0) (by omega) hb3 hr hu0
              by_cases t4 : 4294967296 * r + un0 < q * yn0
              · have t4' : decide (4294967296 * (r : Int) + (un0 : Int) < (m1 : Int)) = true := decide_eq_true (ht3 t4)
                clear ht3 ht4 t1
                obtain ⟨k1, k2, k3⟩ := HI.out.step hVY hu0 hYd.out hb3 (.inr t4)
                obtain ⟨k', hk⟩ : ∃ k, k = q - 1 := ⟨_, rfl⟩
                have ek : (q : Int) - 1 = (k' : Int) := by omega
                rw [← hk] at k2 k3
                have K2 := Lib.hid k2
                have K3 := Lib.hid k3
                have HK := Lib.hid hk
                clear k2 k3 hk
                by_cases t2 : 4294967296 ≤ r + yn1
                · have t2' : decide ((4294967296 : Int) ≤ (r : Int) + (yn1 : Int)) = true := decide_eq_true (by omega)
                  obtain ⟨W, HW⟩ := K3.out t2
                  clear t2 t4
                  have eW := HW.wrap hY2
                  have hk32' := HW.2.2
                  have eR := DFin.rem HF.out HV1.out HW
                  have eQ := DFin.quo HF.out HV1.out HW
                  rw [← HR.out] at eR
                  rw [← HQ.out] at eQ
                  have HW1 := Lib.hid HW
                  clear HW
                  go_wp2_with fail
                  all_goals (go_ret2; exact ⟨rfl, 0, rfl⟩)
                · have t2' : decide ((4294967296 : Int) ≤ (r : Int) + (yn1 : Int)) = false := decide_eq_false (by omega)
                  have HN := Lib.hid (K2.out (by omega))
                  clear t2 t4
                  go_wp2_with fail
                  go_round
                  case rel => exact ⟨k', r + yn1, by go_num, by go_num, HN⟩
                  case measure => simp [intOf]; have := HK.out; omega
              · have t4' : decide (4294967296 * (r : Int) + (un0 : Int) < (m1 : Int)) = false := decide_eq_false (ht4 t4)
                obtain ⟨W, HW⟩ := HI.out.done hVY hu0 hYd.out (by omega)
                obtain ⟨k', rfl⟩ : ∃ k, k = q := ⟨_, rfl⟩
                clear t1 ht3 ht4 t4
                have eW := HW.wrap hY2
                have hk32' := HW.2.2
                have eR := DFin.rem HF.out HV1.out HW
                have eQ := DFin.quo HF.out HV1.out HW
                rw [← HR.out] at eR
                rw [← HQ.out] at eQ
                have HW1 := Lib.hid HW
                clear HW
                go_wp2_with fail
                all_goals (go_ret2; exact ⟨rfl, 0, rfl⟩)
end Go.Proofs.YtjokcbjahidckaaGreat
/-! limb.step: the upper limbs of a number, divided by another one. Conditions: they are below the divisor times 2^64; the divisor lies in another block. -/
namespace Go.Proofs.YtjokcbjahidckaaGreat
open Go.RowKit

/-- Block b alone may have been written. -/
structure OnlyB (b : Nat) (w w' : World) : Prop where
  os : w'.os = w.os
  tape : w'.tape = w.tape
  output : w'.output = w.output
  size : w'.heap.size = w.heap.size
  block : ∀ k, k ≠ b → w'.heap[k]? = w.heap[k]?

theorem OnlyB.refl (b : Nat) (w : World) : OnlyB b w w := ⟨rfl, rfl, rfl, rfl, fun _ _ => rfl⟩
theorem OnlyB.trans {b : Nat} {w w1 w2 : World} (h : OnlyB b w w1) (k : OnlyB b w1 w2) : OnlyB b w w2 :=
  ⟨k.os.trans h.os, k.tape.trans h.tape, k.output.trans h.output, k.size.trans h.size, fun i hi => (k.block i hi).trans (h.block i hi)⟩
theorem OnlyB.drew {b : Nat} {w w1 : World} (h : OnlyB b w w1) : OnlyB b w w1.drew := ⟨h.os, h.tape, h.output, h.size, h.block⟩
theorem OnlyB.drewN {b : Nat} {w w1 : World} (h : OnlyB b w w1) (n : Nat) : OnlyB b w (w1.drewN n) := ⟨h.os, h.tape, h.output, h.size, h.block⟩
theorem OnlyB.setCell {b : Nat} {w w1 : World} (h : OnlyB b w w1) (i : Nat) (v : Value) : OnlyB b w (w1.setCell ⟨b, i, none⟩ v) :=
  ⟨h.os, h.tape, h.output, by rw [← h.size]; simp [World.setCell], fun k hk => by rw [Below.heap_setCell _ _ _ _ hk]; exact h.block k hk⟩
theorem OnlyB.row {b c : Nat} {w w1 : World} (h : OnlyB b w w1) {k : IntKind} {t : TypeId} {xs : List Nat} (hc : c ≠ b) (hr : Row w c k t xs) : Row w1 c k t xs := by
  unfold Row; rw [h.block c hc]; exact hr
theorem OnlyB.cell {b : Nat} {w w1 : World} (h : OnlyB b w w1) {a : Addr} (ha : a.block ≠ b) : w1.cell? a = w.cell? a := by
  unfold World.cell?
  rw [h.block _ ha]
theorem OnlyB.below {b B : Nat} {w w1 : World} (h : OnlyB b w w1) (hB : B ≤ b) : Below B w w1 :=
  ⟨h.os, h.tape, h.output, Nat.le_of_eq h.size.symm, fun k hk => h.block k (by omega)⟩

theorem getD_mid {pre seg post : List Nat} {i : Nat} (h : i < seg.length) : (pre ++ seg ++ post).getD (pre.length + i) 0 = seg.getD i 0 := by
  rw [List.getD_eq_getElem?_getD, List.append_assoc, List.getElem?_append_right (by omega), Nat.add_sub_cancel_left, List.getElem?_append_left h, ← List.getD_eq_getElem?_getD]
theorem set_mid {pre seg post : List Nat} {i v : Nat} (h : i < seg.length) : (pre ++ seg ++ post).set (pre.length + i) v = pre ++ seg.set i v ++ post := by
  rw [List.append_assoc, List.set_append_right _ _ (by omega), Nat.add_sub_cancel_left, List.set_append_left _ _ h, List.append_assoc]

/-- The middle of a row. -/
theorem Row.mid {w : World} {b : Nat} {k : IntKind} {t : TypeId} {pre seg post : List Nat} (h : Row w b k t (pre ++ seg ++ post)) {i : Nat} (hi : i < seg.length) : w.cell? ⟨b, pre.length + i, none⟩ = some (.int k (seg.getD i 0 : Nat)) := by
  rw [h.cell (by simp; omega), getD_mid hi]
theorem Row.setMid {w : World} {b : Nat} {k : IntKind} {t : TypeId} {pre seg post : List Nat} (h : Row w b k t (pre ++ seg ++ post)) {i : Nat} (hi : i < seg.length) (v : Nat) : Row (w.setCell ⟨b, pre.length + i, none⟩ (.int k (v : Nat))) b k t (pre ++ seg.set i v ++ post) := by
  have := h.set (pre.length + i) v
  rwa [set_mid hi] at this

/-- The guess of a quotient's limb is not too small. -/
theorem guess_ge {us vs : List Nat} {n : Nat} (hu : Digs B64 us) (hul : us.length = n + 1 + 1) (hvl : vs.length = n + 1) (hlt : us.getD (n + 1) 0 < vs.getD n 0) :
    ofD B64 us < ((us.getD (n + 1) 0 * B64 + us.getD n 0) / vs.getD n 0 + 1) * ofD B64 vs := by
  have h1 := ofD_take_succ (B := B64) (xs := us) (i := n + 1) (by omega)
  have h2 := ofD_take_succ (B := B64) (xs := us) (i := n) (by omega)
  have h3 := ofD_take_succ (B := B64) (xs := vs) (i := n) (by omega)
  rw [List.take_of_length_le (by omega)] at h1 h3
  have h4 := ofD_lt (hu.take n)
  rw [List.length_take, Nat.min_eq_left (by omega)] at h4
  generalize us.getD (n + 1) 0 = a at *
  generalize us.getD n 0 = c at *
  generalize vs.getD n 0 = d at *
  have h5 : a * B64 + c + 1 ≤ ((a * B64 + c) / d + 1) * d := by
    have := Nat.lt_mul_div_succ (a * B64 + c) (show 0 < d by omega)
    rw [Nat.mul_comm d] at this
    exact this
  generalize (a * B64 + c) / d + 1 = q at *
  have h6 := Nat.mul_le_mul_left (B64 ^ n) h5
  have h7 : q * ofD B64 vs = q * ofD B64 (vs.take n) + B64 ^ n * (q * d) := by rw [h3, Nat.mul_add]; congr 1; rw [Nat.mul_left_comm]
  have h8 : ofD B64 us = ofD B64 (us.take n) + B64 ^ n * (a * B64 + c) := by rw [h1, h2, Nat.pow_succ, Nat.mul_add, Nat.mul_assoc, Nat.mul_comm a B64]; omega
  rw [h7, h8]
  rw [Nat.mul_add _ _ 1, Nat.mul_one] at h6
  have : 0 ≤ q * ofD B64 (vs.take n) := Nat.zero_le _
  omega

theorem guess_lt {u1 u0 v0 : Nat} (h0 : u0 < B64) (h : u1 < v0) : (u1 * B64 + u0) / v0 < B64 := by
  rw [Nat.div_lt_iff_lt_mul (by omega)]
  have := Nat.mul_le_mul_right B64 (show u1 + 1 ≤ v0 from h)
  rw [Nat.add_mul, Nat.one_mul, Nat.mul_comm v0] at this
  omega

theorem step_top {A C q V P u ca bo d bo' : Nat} (e : A + P * (bo + ca) = C + q * V) (e3 : u + B64 * bo' = d + ca + bo) : A + P * u + P * B64 * bo' = C + P * d + q * V := by
  have t3 := congrArg (P * ·) e3
  simp only [Nat.mul_add, ← Nat.mul_assoc] at *
  omega

theorem step_add {A C Vi P x y c s c' : Nat} (e : A + P * c = C + Vi) (e3 : x + y + c = s + B64 * c') : A + P * s + P * B64 * c' = C + P * x + (Vi + P * y) := by
  have t3 := congrArg (P * ·) e3
  simp only [Nat.mul_add, ← Nat.mul_assoc] at *
  omega
theorem step_back {S P2 SG q V A0 x U As s c c' P : Nat} (e : S + P2 * 1 = SG + q * V) (a1 : SG = A0 + P * x) (a3 : U = As + P * s) (a2 : As + P * c = A0 + V) (hm : x + 0 + c = s + B64 * c') (hp : P2 = P * B64) (hq : 1 ≤ q) (hc : c' ≤ 1) :
    S + P2 * (1 - c') = U + (q - 1) * V := by
  obtain ⟨r, rfl⟩ : ∃ r, q = r + 1 := ⟨q - 1, by omega⟩
  have t3 := congrArg (P * ·) hm
  simp only [Nat.mul_add, ← Nat.mul_assoc, ← hp] at t3
  rw [Nat.add_sub_cancel]
  rw [Nat.add_mul, Nat.one_mul] at e
  obtain rfl | rfl : c' = 0 ∨ c' = 1 := by omega
  all_goals (simp only [Nat.mul_zero, Nat.mul_one, Nat.sub_self, Nat.sub_zero] at *; omega)

theorem step_end1 {S P X Y : Nat} (e : S + P * 0 = X + Y) : S = X + Y := by rw [Nat.mul_zero, Nat.add_zero] at e; exact e
theorem step_end2 {S P X q V : Nat} (e : S + P * 0 = X + q * V) (h : S < (q + 1) * V) : X < V := by
  rw [Nat.mul_zero, Nat.add_zero] at e
  rw [Nat.add_mul, Nat.one_mul] at h
  omega
theorem step_end3 {S P X Y : Nat} (e : S + P * 1 = X + Y) (h : X < P) : S < Y := by rw [Nat.mul_one] at e; omega

/-- One limb of the subtraction of q times v. -/
theorem step_sub {A C Vi Bi q u v bo ca h l l' c d bo' : Nat} (e : A + Bi * (bo + ca) = C + q * Vi) (e1 : q * v = l + B64 * h) (e2 : l + ca = l' + B64 * c) (e3 : u + B64 * bo' = d + l' + bo) :
    A + Bi * u + Bi * B64 * (bo' + (h + c)) = C + Bi * d + q * (Vi + Bi * v) := by
  have t := congrArg (Bi * ·) e1
  have t2 := congrArg (Bi * ·) e2
  have t3 := congrArg (Bi * ·) e3
  have t4 : q * (Bi * v) = Bi * (q * v) := Nat.mul_left_comm _ _ _
  simp only [Nat.mul_add, ← Nat.mul_assoc] at *
  omega

/-- A contract that draws, met behind draws that are joined already. -/
theorem quietAdd {P : Program} {f : FuncId} {args : Array Value} {w : World} {a n : Nat} {v : Value} (h : Calls P f args (w.drewN (a + n)) (RetD (w.drewN (a + n)) v)) :
    Calls P f args (w.drewN (a + n)) fun e w'' => e = .returned v ∧ ∃ m, w'' = w.drewN (a + m) :=
  h.mono fun _ _ ⟨he, m, hm⟩ => ⟨he, n + m, by rw [hm, World.drewN_drewN, Nat.add_assoc]⟩
theorem quietOne {P : Program} {f : FuncId} {args : Array Value} {w : World} {n : Nat} {v : Value} (h : Calls P f args (w.drewN n) (RetD (w.drewN n) v)) :
    Calls P f args (w.drewN n) fun e w'' => e = .returned v ∧ ∃ m, w'' = w.drewN m :=
  h.mono fun _ _ ⟨he, m, hm⟩ => ⟨he, n + m, by rw [hm, World.drewN_drewN]⟩

/-- What limb.step leaves. -/
def StepPost (w : World) (b : Nat) (pre seg post vs : List Nat) (e : Ending) (w' : World) : Prop :=
  ∃ (q : Nat) (seg' : List Nat), e = .returned (.int .u64 (q : Nat)) ∧ q < B64 ∧ OnlyB b w w' ∧ Row w' b .u64 22 (pre ++ seg' ++ post) ∧ seg'.length = seg.length ∧ Digs B64 seg' ∧
    ofD B64 seg = ofD B64 seg' + q * ofD B64 vs ∧ ofD B64 seg' < ofD B64 vs

/-- What the guess knows: q times v is at most one v too much, or so. -/
structure Guess (w : World) (b b' : Nat) (pre seg post vs : List Nat) (n : Nat) : Prop where
  hn : vs.length = n + 1
  hs : seg.length = n + 1 + 1
  bb : b' ≠ b
  row : Row w b .u64 22 (pre ++ seg ++ post)
  rowv : Row w b' .u64 22 vs
  hd : Digs B64 seg
  hdv : Digs B64 vs
  hlt : ofD B64 seg < ofD B64 vs * B64

set_option maxHeartbeats 2000000 in
set_option maxRecDepth 100000 in
theorem step_any (b b' cap cap' n : Nat) (pre seg post vs : List Nat) (w : World) (hbig : pre.length + n < 1099511627776) (hg : Guess w b b' pre seg post vs n) :
    Calls Tryz.prog 347 #[.slice (some ⟨b, pre.length, none⟩) (n + 1 + 1) cap, .slice (some ⟨b', 0, none⟩) (n + 1) cap'] w (StepPost w b pre seg post vs) := by
  have HG := Lib.hid hg
  have hc1 := hg.row.mid (i := n + 1) (by rw [hg.hs]; omega)
  have hc0 := hg.row.mid (i := n) (by rw [hg.hs]; omega)
  have hcv := hg.rowv.cell (i := n) (by rw [hg.hn]; omega)
  have hb1 := hg.hd.getD (by decide) (n + 1)
  have hb0 := hg.hd.getD (by decide) n
  have hbv := hg.hdv.getD (by decide) n
  rw [B64_eq] at hb1 hb0 hbv
  have HGE := fun h => Lib.hid (guess_ge hg.hd hg.hs hg.hn h)
  generalize seg.getD (n + 1) 0 = u1 at *
  generalize seg.getD n 0 = u0 at *
  generalize vs.getD n 0 = v0 at *
  clear hg
  have hq0 := HG.out.hlt
  rcases Nat.lt_or_ge u1 v0 with hlt | hlt
  case' inl =>
    have t1 : decide (u1 < v0) = true := decide_eq_true hlt
    have t1' : decide ((u1 : Int) < (v0 : Int)) = true := decide_eq_true (by omega)
    obtain ⟨q, hq⟩ : ∃ q, q = (u1 * B64 + u0) / v0 := ⟨_, rfl⟩
    obtain ⟨r, hr⟩ : ∃ r, r = (u1 * B64 + u0) % v0 := ⟨_, rfl⟩
    have HDV := fun w => Lib.hid (div64_any u1 u0 v0 hb0 hbv hlt w)
    have HQ := HGE hlt
    rw [← hq] at HQ
    have hqb : q < 18446744073709551616 := by rw [hq, ← B64_eq]; exact guess_lt (by rw [B64_eq]; exact hb0) hlt
    rw [← hq, ← hr] at HDV
    clear hq hr hlt HGE hq0
    go_enter Tryz.func347, Tryz.ntmps347
    go_wp2
    go_quiet (fail)
    go_wp2_with fail
    go_quiet ((go_at_call 370; exact quietAdd (HDV _).out))
    go_wp2_with fail
    clear HDV t1 t1'
  case' inr =>
    have t1 : decide (u1 < v0) = false := decide_eq_false (by omega)
    have t1' : decide ((u1 : Int) < (v0 : Int)) = false := decide_eq_false (by omega)
    obtain ⟨q, hq⟩ : ∃ q : Nat, (18446744073709551615 : Int) = (q : Int) := ⟨18446744073709551615, rfl⟩
    have hqb : q < 18446744073709551616 := by omega
    have HQ : Hid (ofD B64 seg < (q + 1) * ofD B64 vs) := by
      show _ < _
      rw [Nat.mul_comm, show q + 1 = B64 from by rw [B64_eq]; omega]; exact hq0
    have HQE := Lib.hid hq
    clear hq hlt HGE hq0
    go_enter Tryz.func347, Tryz.ntmps347
    go_wp2
    go_quiet (fail)
    go_wp2_with fail
    rw [HQE.out]
    clear HQE t1 t1'
  all_goals
    go_loopw [7, 8, 47] (fun b0 c0 i0 wr => ∃ (k bo ca : Nat) (sg : List Nat), k ≤ n + 1 ∧ i0 = .int .i64 k ∧ b0 = .int .u64 bo ∧ c0 = .int .u64 ca ∧ bo ≤ 1 ∧ ca < 18446744073709551616 ∧ OnlyB b w wr ∧ Row wr b .u64 22 (pre ++ sg ++ post) ∧ sg.length = n + 1 + 1 ∧ Digs B64 sg ∧ ofD B64 (seg.take k) + B64 ^ k * (bo + ca) = ofD B64 (sg.take k) + q * ofD B64 (vs.take k) ∧ ∀ p, k ≤ p → sg.getD p 0 = seg.getD p 0) (fun _ _ i _ => n + 1 - (intOf i).toNat)
    case atStart => exact ⟨0, 0, 0, seg, Nat.zero_le _, rfl, rfl, rfl, by omega, by omega, (OnlyB.refl _ _).drewN _, HG.out.row, HG.out.hs, HG.out.hd, by simp [ofD], fun _ _ => rfl⟩
    case round =>
      obtain ⟨k, bo, ca, sg, hk, rfl, rfl, rfl, hbo, hca, hon, hrow, hsl, hds, hE, hsame⟩ := hrel
      have HSL := Lib.hid hsl
      have HE := Lib.hid hE
      have HSA := Lib.hid hsame
      clear hsl hE hsame
      by_cases hlt : k < n + 1
      · as_aux_lemma =>
          have hcu := hrow.mid (i := k) (by rw [HSL.out]; omega)
          have hfu := hrow.frozen (pre.length + k)
          have hcv2 := (hon.row HG.out.bb HG.out.rowv).cell (i := k) (by rw [HG.out.hn]; omega)
          have hx := hds.getD (by decide) k
          have hy := HG.out.hdv.getD (by decide) k
          rw [B64_eq] at hx hy
          have hset := fun v => hrow.setMid (i := k) (by rw [HSL.out]; omega) v
          have HT1 := Lib.hid (ofD_take_succ (B := B64) (xs := seg) (i := k) (by rw [HG.out.hs]; omega))
          have HT2 := Lib.hid (ofD_take_succ (B := B64) (xs := vs) (i := k) (by rw [HG.out.hn]; omega))
          have HT3 := fun v => Lib.hid (ofD_take_set (B := B64) (zs := sg) (i := k) (v := v) (by rw [HSL.out]; omega))
          rw [← HSA.out k (Nat.le_refl _)] at HT1
          generalize sg.getD k 0 = u at *
          generalize vs.getD k 0 = v at *
          obtain ⟨h, l, hh, hl1, hm1, hmul⟩ := mul64_ex q v hqb hy
          obtain ⟨l', c, hl2, hc, hm2, hadd⟩ := add64_ex0 l ca hl1 hca
          obtain ⟨d, bo', hd1, hbo', hm3, hsub⟩ := sub64_ex u l' bo hx hl2 hbo
          have hbig1 : h + c < 18446744073709551616 := by omega
          have HN : Hid (ofD B64 (seg.take (k + 1)) + B64 ^ (k + 1) * (bo' + (h + c)) = ofD B64 ((sg.set k d).take (k + 1)) + q * ofD B64 (vs.take (k + 1))) := by
            show _ = _
            rw [HT1.out, HT2.out, (HT3 d).out, Nat.pow_succ]
            exact step_sub HE.out hm1 hm2 hm3
          have HM := fun w => Lib.hid (hmul w)
          have HS := Lib.hid (hset d)
          clear hm1 hm2 hm3 HT1 HT2 HT3 hmul hset
          go_wp2_with (go_at_call 250; refine (HM _).out.mono ?_; rintro e w' ⟨rfl, rfl⟩)
          go_roundw
          case rel => exact ⟨k + 1, bo', h + c, sg.set k d, hlt, by go_num, rfl, by go_num, hbo', hbig1, hon.setCell _ _, HS.out, by rw [List.length_set]; exact HSL.out, hds.set _ (by rw [B64_eq]; exact hd1), HN.out, fun p hp => by
            rw [List.getD_eq_getElem?_getD, List.getElem?_set_ne (by omega), ← List.getD_eq_getElem?_getD]; exact HSA.out p (by omega)⟩
          case measure => simp [intOf]; omega
      · have hkk : k = n + 1 := by omega
        subst hkk
        have hcu := hrow.mid (i := n + 1) (by rw [HSL.out]; omega)
        have hfu := hrow.frozen (pre.length + (n + 1))
        have hx := hds.getD (by decide) (n + 1)
        rw [B64_eq] at hx
        have hset := fun v => hrow.setMid (i := n + 1) (by rw [HSL.out]; omega) v
        have HT1 := Lib.hid (ofD_take_succ (B := B64) (xs := seg) (i := n + 1) (by rw [HG.out.hs]; omega))
        have HT3 := fun v => Lib.hid (ofD_take_set (B := B64) (zs := sg) (i := n + 1) (v := v) (by rw [HSL.out]; omega))
        rw [← HSA.out (n + 1) (Nat.le_refl _)] at HT1
        generalize sg.getD (n + 1) 0 = u at *
        obtain ⟨d, bo', hd1, hbo', hm3, hsub⟩ := sub64_ex u ca bo hx hca hbo
        have HE2 : Hid (ofD B64 seg + B64 ^ (n + 1 + 1) * bo' = ofD B64 (sg.set (n + 1) d) + q * ofD B64 vs) := by
          show _ = _
          have a1 := HT1.out
          have a3 := (HT3 d).out
          rw [List.take_of_length_le (by rw [HG.out.hs]; exact Nat.le_refl _)] at a1
          rw [List.take_of_length_le (by rw [List.length_set, HSL.out]; exact Nat.le_refl _)] at a3
          have a2 := HE.out
          rw [ofD_take_all vs (by rw [HG.out.hn]; exact Nat.le_refl _)] at a2
          rw [a1, a3, Nat.pow_succ]
          exact step_top a2 hm3
        have HS := Lib.hid (hset d)
        have HDS : Hid (Digs B64 (sg.set (n + 1) d)) := hds.set _ (by rw [B64_eq]; exact hd1)
        have HL2 : Hid ((sg.set (n + 1) d).length = n + 1 + 1) := by show _ = _; rw [List.length_set]; exact HSL.out
        have HON := Lib.hid (hon.setCell (pre.length + (n + 1)) (.int .u64 (d : Nat)))
        have hqb2 := hqb
        clear hm3 HT1 HT3 hset hrow hds hon HSA HE HSL hqb
        generalize sg.set (n + 1) d = sg1 at *
        go_wp2_with fail
        go_loopw [6, 7] (fun q0 b0 wr => ∃ (q bo : Nat) (sg : List Nat), q0 = .int .u64 q ∧ b0 = .int .u64 bo ∧ bo ≤ 1 ∧ q < 18446744073709551616 ∧ OnlyB b w wr ∧ Row wr b .u64 22 (pre ++ sg ++ post) ∧ sg.length = n + 1 + 1 ∧ Digs B64 sg ∧ ofD B64 seg + B64 ^ (n + 1 + 1) * bo = ofD B64 sg + q * ofD B64 vs ∧ ofD B64 seg < (q + 1) * ofD B64 vs) (fun q0 _ _ => (intOf q0).toNat)
        case atStart => exact ⟨q, bo', sg1, rfl, rfl, hbo', hqb2, HON.out, HS.out, HL2.out, HDS.out, HE2.out, HQ.out⟩
        case round =>
          clear HON HS HL2 HDS HE2 HQ
          obtain ⟨q, bo, sg, rfl, rfl, hbo, hqb, hon, hrow, hsl, hds, hE, hQ⟩ := hrel
          have HSL := Lib.hid hsl
          have HE := Lib.hid hE
          have HQ := Lib.hid hQ
          have HDS := Lib.hid hds
          have HON := Lib.hid hon
          have HROW := Lib.hid hrow
          clear hsl hE hQ hds hon hrow
          obtain rfl | rfl : bo = 0 ∨ bo = 1 := by omega
          · as_aux_lemma =>
              go_wp2_with fail
              go_ret
              refine ⟨q, sg, rfl, by rw [B64_eq]; exact hqb, HON.out, HROW.out, by rw [HSL.out, HG.out.hs], HDS.out, step_end1 HE.out, step_end2 HE.out HQ.out⟩
          · have HLT := ofD_lt HDS.out
            rw [HSL.out] at HLT
            have hlt : ofD B64 seg < q * ofD B64 vs := step_end3 HE.out HLT
            have hq1 : 1 ≤ q := by
              rcases Nat.eq_zero_or_pos q with h | h
              · rw [h, Nat.zero_mul] at hlt; omega
              · exact h
            have HLQ := Lib.hid hlt
            clear HLT hlt
            obtain ⟨wo, rfl⟩ : ∃ wo : World, wo = wr := ⟨_, rfl⟩
            go_wp2_with fail
            go_loopw [13, 101] (fun c0 i0 wr => ∃ (k c : Nat) (us : List Nat), k ≤ n + 1 ∧ i0 = .int .i64 k ∧ c0 = .int .u64 c ∧ c ≤ 1 ∧ OnlyB b w wr ∧ Row wr b .u64 22 (pre ++ us ++ post) ∧ us.length = n + 1 + 1 ∧ Digs B64 us ∧ ofD B64 (us.take k) + B64 ^ k * c = ofD B64 (sg.take k) + ofD B64 (vs.take k) ∧ ∀ p, k ≤ p → us.getD p 0 = sg.getD p 0) (fun _ i _ => n + 1 - (intOf i).toNat)
            case atStart => exact ⟨0, 0, sg, Nat.zero_le _, rfl, rfl, by omega, HON.out, HROW.out, HSL.out, HDS.out, by simp [ofD], fun _ _ => rfl⟩
            case round =>
              obtain ⟨k, c, us, hk, rfl, rfl, hc, hon, hrow, hul, hdu, hE3, hsame⟩ := hrel
              have HUL := Lib.hid hul
              have HE3 := Lib.hid hE3
              have HSA := Lib.hid hsame
              clear hul hE3 hsame
              by_cases hkt : k < n + 1
              · as_aux_lemma =>
                  have hcu := hrow.mid (i := k) (by rw [HUL.out]; omega)
                  have hfu := hrow.frozen (pre.length + k)
                  have hcv2 := (hon.row HG.out.bb HG.out.rowv).cell (i := k) (by rw [HG.out.hn]; omega)
                  have hx := hdu.getD (by decide) k
                  have hy := HG.out.hdv.getD (by decide) k
                  rw [B64_eq] at hx hy
                  have hset := fun v => hrow.setMid (i := k) (by rw [HUL.out]; omega) v
                  have HT1 := Lib.hid (ofD_take_succ (B := B64) (xs := sg) (i := k) (by rw [HSL.out]; omega))
                  have HT2 := Lib.hid (ofD_take_succ (B := B64) (xs := vs) (i := k) (by rw [HG.out.hn]; omega))
                  have HT3 := fun v => Lib.hid (ofD_take_set (B := B64) (zs := us) (i := k) (v := v) (by rw [HUL.out]; omega))
                  rw [← HSA.out k (Nat.le_refl _)] at HT1
                  generalize us.getD k 0 = x at *
                  generalize vs.getD k 0 = y at *
                  obtain ⟨s, c', hs1, hc1, hm, hadd⟩ := add64_ex x y c hx hy hc
                  have HN : Hid (ofD B64 ((us.set k s).take (k + 1)) + B64 ^ (k + 1) * c' = ofD B64 (sg.take (k + 1)) + ofD B64 (vs.take (k + 1))) := by
                    show _ = _
                    rw [HT1.out, HT2.out, (HT3 s).out, Nat.pow_succ]
                    exact step_add HE3.out hm
                  have HS := Lib.hid (hset s)
                  clear hm HT1 HT2 HT3 hset
                  go_wp2_with fail
                  go_region
                  go_wp2_with fail
                  go_roundw
                  case rel => exact ⟨k + 1, c', us.set k s, hkt, by go_num, rfl, hc1, (hon.setCell _ _).drew, HS.out.drew, by rw [List.length_set]; exact HUL.out, hdu.set _ (by rw [B64_eq]; exact hs1), HN.out, fun p hp => by
                    rw [List.getD_eq_getElem?_getD, List.getElem?_set_ne (by omega), ← List.getD_eq_getElem?_getD]; exact HSA.out p (by omega)⟩
                  case measure => simp [intOf]; omega
              · as_aux_lemma =>
                  have hkk : k = n + 1 := by omega
                  subst hkk
                  have hcu := hrow.mid (i := n + 1) (by rw [HUL.out]; omega)
                  have hfu := hrow.frozen (pre.length + (n + 1))
                  have hx := hdu.getD (by decide) (n + 1)
                  rw [B64_eq] at hx
                  have hset := fun v => hrow.setMid (i := n + 1) (by rw [HUL.out]; omega) v
                  have HT1 := Lib.hid (ofD_take_succ (B := B64) (xs := sg) (i := n + 1) (by rw [HSL.out]; omega))
                  have HT3 := fun v => Lib.hid (ofD_take_set (B := B64) (zs := us) (i := n + 1) (v := v) (by rw [HUL.out]; omega))
                  rw [← HSA.out (n + 1) (Nat.le_refl _)] at HT1
                  generalize us.getD (n + 1) 0 = x at *
                  obtain ⟨s, c', hs1, hc1, hm, hadd⟩ := add64_ex x 0 c hx (by decide) hc
                  simp only [show ((0 : Nat) : Int) = 0 from rfl] at hadd
                  have HN : Hid (ofD B64 seg + B64 ^ (n + 1 + 1) * (1 - c') = ofD B64 (us.set (n + 1) s) + (q - 1) * ofD B64 vs) := by
                    show _ = _
                    have a1 := HT1.out
                    have a3 := (HT3 s).out
                    rw [List.take_of_length_le (by rw [HSL.out]; exact Nat.le_refl _)] at a1
                    rw [List.take_of_length_le (by rw [List.length_set, HUL.out]; exact Nat.le_refl _)] at a3
                    have a2 := HE3.out
                    rw [ofD_take_all vs (by rw [HG.out.hn]; exact Nat.le_refl _)] at a2
                    exact step_back HE.out a1 a3 a2 hm (Nat.pow_succ ..) hq1 hc1
                  have HS := Lib.hid (hset s)
                  clear hm HT1 HT3 hset
                  have hb1 : (c' : Int) ≤ 1 := by omega
                  go_wp2_with fail
                  go_roundw
                  case rel => exact ⟨q - 1, 1 - c', us.set (n + 1) s, by go_num, by go_num, by omega, by omega, hon.setCell _ _, HS.out, by rw [List.length_set]; exact HUL.out, hdu.set _ (by rw [B64_eq]; exact hs1), HN.out, by rw [Nat.sub_add_cancel hq1]; exact HLQ.out⟩
                  case measure => simp [intOf]; omega
end Go.Proofs.YtjokcbjahidckaaGreat
/-! limb.shifted, DivMod: a number shifted; quotient and what is left. Conditions: limbs below 2^64; what one divides by is not 0. -/
namespace Go.Proofs.YtjokcbjahidckaaGreat
open Go.RowKit

theorem getD_append_zeros (xs : List Nat) (n i : Nat) : (xs ++ List.replicate n 0).getD i 0 = xs.getD i 0 := by
  rw [List.getD_eq_getElem?_getD, List.getD_eq_getElem?_getD]
  rcases Nat.lt_or_ge i xs.length with h | h
  · rw [List.getElem?_append_left h]
  · rw [List.getElem?_append_right h, List.getElem?_replicate, List.getElem?_eq_none h]
    split <;> rfl

theorem ofD_append_zeros {B : Nat} (xs : List Nat) (n : Nat) : ofD B (xs ++ List.replicate n 0) = ofD B xs := by
  rw [ofD_append, ofD_replicate, Nat.mul_zero, Nat.add_zero]

theorem drop_cons {xs : List Nat} {k : Nat} (h : k < xs.length) : xs.drop k = xs.getD k 0 :: xs.drop (k + 1) := by
  rw [List.drop_eq_getElem_cons h, List.getD_eq_getElem?_getD, List.getElem?_eq_getElem h]; rfl
theorem drop_pad {xs : List Nat} {L k : Nat} (hL : xs.length ≤ L) (h : k < L) : (xs ++ List.replicate (L - xs.length) 0).drop k = xs.getD k 0 :: (xs ++ List.replicate (L - xs.length) 0).drop (k + 1) := by
  rw [drop_cons (by simp; omega), getD_append_zeros]

/-- What comes up from the limb below. -/
def carryUp (xs : List Nat) (by' k : Nat) : Nat := if k = 0 then 0 else xs.getD (k - 1) 0 / 2 ^ (64 - by')

theorem shift_parts {x s : Nat} (hs : s < 64) : x * 2 ^ s = x * 2 ^ s % 18446744073709551616 + B64 * (x / 2 ^ (64 - s)) := by
  have hps : 0 < 2 ^ s := Nat.pow_pos (by decide)
  have e : 18446744073709551616 = 2 ^ (64 - s) * 2 ^ s := by rw [← Nat.pow_add, show 64 - s + s = 64 from by omega]
  have h1 : x * 2 ^ s / 18446744073709551616 = x / 2 ^ (64 - s) := by rw [e, Nat.mul_div_mul_right _ _ hps]
  have := Nat.div_add_mod (x * 2 ^ s) 18446744073709551616
  rw [h1] at this
  rw [B64_eq]; omega

theorem shift_or {x x' y c s : Nat} (hs : s < 64) (hy : y = x * 2 ^ s % 18446744073709551616) (hx' : x' < 18446744073709551616) (hc : c = x' / 2 ^ (64 - s)) :
    c < 2 ^ s ∧ bits .or .u64 (y : Int) (c : Int) = ((y + c : Nat) : Int) ∧ y + c < 18446744073709551616 := by
  have hps : 0 < 2 ^ s := Nat.pow_pos (by decide)
  have e : 18446744073709551616 = 2 ^ s * 2 ^ (64 - s) := by rw [← Nat.pow_add, show s + (64 - s) = 64 from by omega]
  have hcs : c < 2 ^ s := by rw [hc, Nat.div_lt_iff_lt_mul (Nat.pow_pos (by decide)), ← e]; exact hx'
  have hy0 : y % 2 ^ s = 0 := by rw [hy, e, Nat.mod_mul_right_mod, Nat.mul_mod_left]
  have hy1 : y < 18446744073709551616 := by rw [hy]; exact Nat.mod_lt _ (by decide)
  have hle : 2 ^ s ≤ 18446744073709551616 := by rw [e]; exact Nat.le_mul_of_pos_right _ (Nat.pow_pos (by decide))
  refine ⟨hcs, ?_, ?_⟩
  · rw [u64_or_nat y c hy1 (by omega), nat_join s _ _ hy0 hcs]
  · obtain ⟨m, rfl⟩ : ∃ m, y = 2 ^ s * m := ⟨y / 2 ^ s, by have := Nat.div_add_mod y (2 ^ s); omega⟩
    rw [e] at hy1 ⊢
    have hm : m < 2 ^ (64 - s) := Nat.lt_of_mul_lt_mul_left hy1
    have := Nat.mul_le_mul_left (2 ^ s) (show m + 1 ≤ 2 ^ (64 - s) from hm)
    rw [Nat.mul_add, Nat.mul_one] at this
    omega

theorem sh_step {zs xs pad : List Nat} {k s x y c : Nat} (hz : zs.drop k = x :: zs.drop (k + 1)) (hp : pad.drop k = xs.getD k 0 :: pad.drop (k + 1)) (hv : ofD B64 (zs.drop (k + 1)) = ofD B64 (pad.drop (k + 1)) * 2 ^ s + carryUp xs s (k + 1))
    (hx : x = xs.getD k 0) (hxt : x * 2 ^ s = y + B64 * (xs.getD k 0 / 2 ^ (64 - s))) (hk : k < zs.length) :
    ofD B64 ((zs.set k (y + c)).drop k) = ofD B64 (pad.drop k) * 2 ^ s + c := by
  have e : (zs.set k (y + c)).drop k = (y + c) :: zs.drop (k + 1) := by
    rw [drop_cons (by rw [List.length_set]; exact hk), List.drop_set_of_lt (by omega), List.getD_eq_getElem?_getD, List.getElem?_set_self hk]; rfl
  rw [e, hp, ofD_cons, ofD_cons, hv, ← hx, Nat.add_mul, hxt]
  unfold carryUp
  rw [if_neg (by omega), Nat.add_sub_cancel, Nat.mul_add, Nat.mul_assoc]
  omega

/-- What limb.shifted leaves. -/
def ShPost (w : World) (L v : Nat) (e : Ending) (w' : World) : Prop :=
  ∃ zs, e = .returned (.slice (some ⟨w.heap.size, 0, none⟩) L L) ∧ Below w.heap.size w w' ∧ Row w' w.heap.size .u64 22 zs ∧ zs.length = L ∧ Digs B64 zs ∧ ofD B64 zs = v

theorem shift_limb {x s : Nat} (hx : x < 18446744073709551616) (hs : s < 64) : IntKind.u64.wrap ((x : Int) * 2 ^ s) = ((x * 2 ^ s % 18446744073709551616 : Nat) : Int) := by
  have e : (x : Int) * 2 ^ s = ((x * 2 ^ s : Nat) : Int) := by rw [Int.natCast_mul, Int.natCast_pow]; rfl
  rw [e, IntKind.wrap_u64]; omega

theorem shifted_any (A : Option Addr) (cap : Nat) (xs : List Nat) (s L : Nat) (w : World) (hc : xs.length ≤ cap) (hL : xs.length ≤ L) (hL2 : L < 1099511627776) (hs : s < 64) (hr : Rd w .u64 A xs) (hd : Digs B64 xs) (htop : xs.getD (L - 1) 0 / 2 ^ (64 - s) = 0) :
    Calls Tryz.prog 346 #[.slice A xs.length cap, .int .i64 (s : Nat), .int .i64 (L : Nat)] w (ShPost w L (ofD B64 xs * 2 ^ s)) := by
  have HR := Lib.hid hr
  have HD := Lib.hid hd
  have HT := Lib.hid htop
  clear hr hd htop
  have hmk := mk64 ((L : Nat) : Int) L rfl (by omega)
  obtain ⟨v, hv⟩ : ∃ v, v = ofD B64 xs * 2 ^ s := ⟨_, rfl⟩
  rw [← hv]
  have HV := Lib.hid hv
  clear hv
  go_enter Tryz.func346, Tryz.ntmps346
  go_wp2_with (with_reducible refine wpList_copy_splice rfl _ _ 86 86 rfl 22 Tryz.underlying86 (by kernel_rfl) (some ⟨w.heap.size, 0, none⟩) A L L xs.length cap rfl rfl w.heap.size 0 ((List.replicate L 0).map fun n : Nat => Value.int .u64 (n : Int)) 22 ?hg (xs.map fun n : Nat => Value.int .u64 (n : Int)) ?hn ?hpos ?hfit ?h1 w.heap.size w ?hb (Nat.le_refl _) ?hh)
  case hg => exact heap_alloc_new _ _
  case hn => simp [Nat.min_eq_left hL]
  case hpos =>
    intro h0
    have h0' : 0 < xs.length := by simpa using h0
    rcases HR.out.2 with e | ⟨b, off, e, hx⟩
    · rw [e] at h0'; simp at h0'
    · refine ⟨_, e, fun j v hj => ?_⟩
      have hj2 : j < xs.length := by
        rcases Nat.lt_or_ge j xs.length with h | h
        · exact h
        · rw [List.getElem?_eq_none (by simpa using h)] at hj; cases hj
      have := cell_below ((Below.refl w.heap.size w).alloc (Nat.le_refl _) (.cells (cellsOf .u64 (List.replicate L 0)) 22)) (hx j hj2)
      rw [show (⟨b, off, none⟩ : Addr).add j = ⟨b, off + j, none⟩ from by unfold Addr.add; split <;> simp_all]
      rw [this]
      simp [List.getD_eq_getElem?_getD, hj]
  case hfit => simpa using hL
  case h1 =>
    intro v hv
    obtain ⟨n, _, rfl⟩ := List.mem_map.1 hv
    rfl
  case hb => exact (Below.refl _ _).alloc (Nat.le_refl _) _
  case hh =>
    intro w1 hg1 hb1
    have hrow : Row w1 w.heap.size .u64 22 (xs ++ List.replicate (L - xs.length) 0) := by
      have := hg1.out
      unfold Row
      rw [this]
      simp [cellsOf, splice]
    clear hg1
    have HB1 := Lib.hid hb1
    have HROW := Lib.hid hrow
    clear hb1 hrow hmk
    rcases Nat.eq_zero_or_pos s with hs0 | hs0
    · subst hs0
      go_wp2_with fail
      go_rounds 1
      all_goals
        go_wp2
        go_ret
        refine ⟨_, rfl, HB1.out, HROW.out, by simp; omega, HD.out.append (Digs.replicate (by decide) _), ?_⟩
        rw [ofD_append_zeros, HV.out, Nat.pow_zero, Nat.mul_one]
    · have hsp : decide ((0 : Int) < (s : Int)) = true := decide_eq_true (by omega)
      go_wp2_with fail
      go_loopw [8] (fun i wr => ∃ (k : Nat) (zs : List Nat), k ≤ L ∧ i = .int .i64 ((k : Int) - 1) ∧ Below w.heap.size w wr ∧ Row wr w.heap.size .u64 22 zs ∧ zs.length = L ∧ Digs B64 zs ∧ (∀ p, p < k → zs.getD p 0 = xs.getD p 0) ∧ ofD B64 (zs.drop k) = ofD B64 ((xs ++ List.replicate (L - xs.length) 0).drop k) * 2 ^ s + carryUp xs s k) (fun i _ => (intOf i + 1).toNat)
      case atStart =>
        refine ⟨L, xs ++ List.replicate (L - xs.length) 0, Nat.le_refl _, rfl, HB1.out, HROW.out, by simp; omega, HD.out.append (Digs.replicate (by decide) _), fun p _ => getD_append_zeros _ _ _, ?_⟩
        have : (xs ++ List.replicate (L - xs.length) 0).drop L = [] := List.drop_of_length_le (by simp; omega)
        rw [this]
        have h2 := HT.out
        unfold carryUp
        rw [h2]
        split <;> simp [ofD]
      case round =>
        clear HB1 HROW
        obtain ⟨k, zs, hk, rfl, hb, hrow, hzl, hdz, hsame, hval⟩ := hrel
        have HZL := Lib.hid hzl
        have HSA := Lib.hid hsame
        have HVL := Lib.hid hval
        clear hzl hsame hval
        rcases k with _ | k
        · have HB2 := Lib.hid hb
          have HR2 := Lib.hid hrow
          have HD2 := Lib.hid hdz
          clear hb hrow hdz
          go_wp2_with fail
          go_ret
          refine ⟨zs, rfl, HB2.out, HR2.out, HZL.out, HD2.out, ?_⟩
          have h1 := HVL.out
          simp only [List.drop_zero] at h1
          rw [h1, ofD_append_zeros, HV.out]
          simp [carryUp]
        · have hkz : k < zs.length := by rw [HZL.out]; omega
          have hc1 := hrow.cell hkz
          have hf1 := hrow.frozen k
          have hx := hdz.getD (by decide) k
          rw [B64_eq] at hx
          have HX := HSA.out k (by omega)
          have e1 := shift_limb hx hs
          obtain ⟨y, hy⟩ : ∃ y, y = zs.getD k 0 * 2 ^ s % 18446744073709551616 := ⟨_, rfl⟩
          rw [← hy] at e1
          have hy1 : y < 18446744073709551616 := by rw [hy]; exact Nat.mod_lt _ (by decide)
          have HDR := Lib.hid (drop_cons (xs := zs) hkz)
          have HDX := Lib.hid (drop_pad (xs := xs) (L := L) (k := k) hL (by omega))
          have hxt : zs.getD k 0 * 2 ^ s = y + B64 * (xs.getD k 0 / 2 ^ (64 - s)) := by
            rw [hy, ← HX]; exact shift_parts hs
          have HST := fun c => Lib.hid (sh_step (c := c) HDR.out HDX.out HVL.out HX hxt hkz)
          rcases k with _ | k
          · have hst := hrow.set 0 y
            have HN := HST 0
            have HDN : Hid (Digs B64 (zs.set 0 y)) := hdz.set _ (by rw [B64_eq]; exact hy1)
            clear hy hxt HST HX
            generalize zs.getD 0 0 = x at *
            go_wp2_with fail
            go_roundw
            case rel => exact ⟨0, zs.set 0 y, Nat.zero_le _, by go_num, hb.setCell (Nat.le_refl _) _, hst, by rw [List.length_set]; exact HZL.out, HDN.out, fun p hp => by omega, HN.out⟩
            case measure => simp [intOf]
          · have hkz2 : k < zs.length := by omega
            have hc2 := hrow.cell hkz2
            have hx2 := hdz.getD (by decide) k
            rw [B64_eq] at hx2
            have HX2 := Lib.hid (HSA.out k (by omega))
            obtain ⟨c, hc⟩ : ∃ c, c = zs.getD k 0 / 2 ^ (64 - s) := ⟨_, rfl⟩
            have ec : ((zs.getD k 0 : Nat) : Int) / 2 ^ (64 - s) = (c : Int) := by rw [hc, Int.natCast_ediv, Int.natCast_pow]; rfl
            obtain ⟨hcs, heor, hsum⟩ := shift_or (x := zs.getD (k + 1) 0) hs hy hx2 hc
            have HN := HST c
            have hst := hrow.set (k + 1) (y + c)
            have HSS : Hid (((zs.set (k + 1) y).set (k + 1) (y + c)) = zs.set (k + 1) (y + c)) := List.set_set _
            have hst1 := hrow.set (k + 1) y
            have hcA := hst1.cell (i := k + 1) (by rw [List.length_set]; exact hkz)
            have hcB := hst1.cell (i := k) (by rw [List.length_set]; exact hkz2)
            have hfA := hst1.frozen (k + 1)
            rw [show (zs.set (k + 1) y).getD (k + 1) 0 = y from by rw [List.getD_eq_getElem?_getD, List.getElem?_set_self hkz]; rfl] at hcA
            rw [show (zs.set (k + 1) y).getD k 0 = zs.getD k 0 from by rw [List.getD_eq_getElem?_getD, List.getElem?_set_ne (by omega), ← List.getD_eq_getElem?_getD]] at hcB
            have hst2 := hst1.set (k + 1) (y + c)
            rw [HSS.out] at hst2
            have HDN : Hid (Digs B64 (zs.set (k + 1) (y + c))) := hdz.set _ (by rw [B64_eq]; exact hsum)
            have HCU : Hid (c = carryUp xs s (k + 1)) := by show _ = _; unfold carryUp; rw [if_neg (by omega), hc, HX2.out]; rfl
            obtain ⟨z, hz⟩ : ∃ z, z = y + c := ⟨_, rfl⟩
            rw [← hz] at heor hsum hst2 HN HDN
            have HZ := Lib.hid hz
            clear hy hxt HST HX hc hz hst
            generalize zs.getD k 0 = x' at *
            generalize zs.getD (k + 1) 0 = x at *
            go_wp2_with fail
            go_region
            go_wp2_with fail
            go_roundw
            case rel => exact ⟨k + 1, zs.set (k + 1) z, by omega, by go_num, ((hb.setCell (Nat.le_refl _) _).setCell (Nat.le_refl _) _).drew, hst2.drew, by rw [List.length_set]; exact HZL.out, HDN.out, fun p hp => by
              rw [List.getD_eq_getElem?_getD, List.getElem?_set_ne (by omega), ← List.getD_eq_getElem?_getD]; exact HSA.out p (by omega), by rw [← HCU.out]; exact HN.out⟩
            case measure => simp [intOf]; omega
end Go.Proofs.YtjokcbjahidckaaGreat
/-! limb.DivMod: quotient and what is left. Conditions: limbs below 2^64; what one divides by is not 0. -/
namespace Go.Proofs.YtjokcbjahidckaaGreat
open Go.RowKit

/-- A row of the call's own reads. -/
theorem own_isSl {w : World} {B : Nat} {e : TypeId} {k : IntKind} {v : Value} {n : Nat} {xs : List Nat} (h : w.ownsRow B e 1 v n (xs.map fun n : Nat => Value.int k (n : Int))) (hl : xs.length ≤ 1099511627776) : IsSl w k v xs := by
  have hn : xs.length = n := by have := h.1; simpa using this
  rcases h.2 with ⟨rfl, h0⟩ | ⟨g, cap, cur, rfl, _, hg, hc, _, _, ht⟩
  · have : xs = [] := List.eq_nil_of_length_eq_zero (by omega)
    subst this
    exact ⟨none, 0, rfl, Nat.le_refl _, Rd.nil _ _ _, fun _ => rfl⟩
  · refine ⟨_, cap, by rw [hn], by omega, ⟨hl, .inr ⟨g, 0, rfl, fun j hj => ?_⟩⟩, nofun⟩
    have := h.cells (g := g) rfl j (.int k ((xs.getD j 0 : Nat) : Int)) (by simp [List.getD_eq_getElem?_getD, hj])
    rwa [show (⟨g, 0, none⟩ : Addr).add j = ⟨g, 0 + j, none⟩ from by unfold Addr.add; split <;> simp_all] at this

section
variable {ops : Array Oper} {rest : List Oper} {o : Oper} {a : Act} {Q : Exit → Act → World → Prop}
/-- append([]uint64(nil), x...). -/
theorem append_nil64 (w : World) (hgd : o.guard = none) (s x : Operand) (ho : o.op = .call { callee := .builtin .append, args := #[s, x], argTypes := #[86, 86] }) (hs : a.eval s = .slice none 0 0)
    (A : Option Addr) (c : Nat) (xs : List Nat) (hx : a.eval x = .slice A xs.length c) (hA : A = none → c = 0) (hr : Rd w .u64 A xs)
    (h : ∀ v' w', IsSl w' .u64 v' xs → Below w.heap.size w w' → wpList Tryz.prog ops Q rest (a.put o.dst v') w') : wpList Tryz.prog ops Q (o :: rest) a w := by
  have hinfo : ∃ i : TypeInfo, Tryz.prog.info? 22 = some i ∧ i.zero = some (.int .u64 0) ∧ i.size = 1 ∧ i.bytes = 8 := by
    have h : (Tryz.prog.info? 22).map (fun i => (i.zero, i.size, i.bytes)) = some (some (.int .u64 0), 1, 8) := by kernel_rfl
    obtain ⟨i, h1, h2⟩ := Option.map_eq_some_iff.1 h
    simp only [Prod.mk.injEq] at h2
    exact ⟨i, h1, h2.1, h2.2.1, h2.2.2⟩
  obtain ⟨i, hi, hz, hsz, hby⟩ := hinfo
  have hl := hr.1
  have hlm : 0 + xs.length ≤ maxLen := by unfold maxLen; omega
  have hnil : w.ownsRow w.heap.size 22 1 (.slice none 0 0) 0 [] := ⟨by simp, .inl ⟨rfl, rfl⟩⟩
  rcases A with _ | ad
  · have hx0 : xs = [] := by
      rcases hr.2 with h | ⟨b, off, e, _⟩
      · exact h
      · cases e
    subst hx0
    have hc := hA rfl
    subst hc
    refine wpList_append_own_none hgd s x 86 ho w.heap.size 22 i 1 Tryz.underlying86 hi (.slice none 0 0) 0 [] hs hnil hx ?_
    exact h _ _ ⟨none, 0, rfl, Nat.le_refl _, Rd.nil _ _ _, fun _ => rfl⟩ (Below.refl _ _)
  · refine wpList_append_own w hgd s x 86 ho w.heap.size 22 i (.int .u64 0) 1 8 Tryz.underlying86 hi hz hsz hby rfl (by omega) (.slice none 0 0) 0 [] hs hnil ad xs.length c (xs.map fun n : Nat => Value.int .u64 (n : Int)) hx (by simp) ?_ ?_ hlm (by omega) (Nat.le_refl _) ?_
    · intro j u hj
      have hj2 : j < xs.length := by
        rcases Nat.lt_or_ge j xs.length with h | h
        · exact h
        · rw [List.getElem?_eq_none (by simpa using h)] at hj; cases hj
      obtain ⟨b, off, e, hc⟩ := hr.at hj2
      obtain rfl := Option.some.inj e
      rw [show (⟨b, off, none⟩ : Addr).add j = ⟨b, off + j, none⟩ from by unfold Addr.add; split <;> simp_all, hc, ← hj]
      simp [List.getD_eq_getElem?_getD, hj2]
    · intro v hv
      obtain ⟨n, _, rfl⟩ := List.mem_map.1 hv
      rfl
    · intro v' w' hown hg _
      refine h v' w' (own_isSl (by simpa using hown) hl) ((Below.refl _ _).grown hg (Nat.le_refl _) ?_)
      intro k hk
      simp [Value.ownBlock] at hk
end

/-- Two slices come back. -/
def RetSl2 (w : World) (xs ys : List Nat) (e : Ending) (w' : World) : Prop := ∃ v1 v2, e = .returned (.tuple #[v1, v2]) ∧ Below w.heap.size w w' ∧ IsSl w' .u64 v1 xs ∧ IsSl w' .u64 v2 ys

theorem divmod_small (A A' : Option Addr) (cap cap' : Nat) (xs ys : List Nat) (w : World) (hc : xs.length ≤ cap) (hc' : ys.length ≤ cap') (hA : A = none → cap = 0) (hr : Rd w .u64 A xs) (hr' : Rd w .u64 A' ys) (hd : Digs B64 xs) (hlt : (trimD xs).length < (trimD ys).length) :
    Calls Tryz.prog 293 #[.slice A xs.length cap, .slice A' ys.length cap'] w (RetSl2 w (lm (ofD B64 xs / ofD B64 ys)) (lm (ofD B64 xs % ofD B64 ys))) := by
  have HT := Lib.hid (trim_any A cap xs w hc hr)
  have HT' := Lib.hid (trim_any A' cap' ys w hc' hr')
  have HR : Hid (Rd w .u64 A (trimD xs)) := hr.take _
  have hlv : ofD B64 xs < ofD B64 ys := by
    rw [← ofD_trimD B64 xs, ← ofD_trimD B64 ys]
    have h1 := ofD_ge (B := B64) (xs := trimD ys) (by decide) (by omega) (trimD_last (by omega))
    have h2 := ofD_lt hd.trimD
    have h3 : B64 ^ (trimD xs).length ≤ B64 ^ ((trimD ys).length - 1) := Nat.pow_le_pow_right (by decide) (by omega)
    omega
  have HQ : Hid (lm (ofD B64 xs / ofD B64 ys) = [] ∧ lm (ofD B64 xs % ofD B64 ys) = lm (ofD B64 (trimD xs))) := by
    rw [Nat.div_eq_of_lt hlv, Nat.mod_eq_of_lt hlv, ofD_trimD]; exact ⟨rfl, rfl⟩
  have HDT := Lib.hid hd.trimD
  have hml := Nat.le_trans (length_trimD_le xs) hr.1
  have hnl := Nat.le_trans (length_trimD_le ys) hr'.1
  have t1 : decide ((trimD xs).length < (trimD ys).length) = true := decide_eq_true hlt
  have HA : Hid (A = none → (trimD xs).length = 0) := fun h => by have := hA h; have := length_trimD_le xs; omega
  clear hr hr' hd hlv hA
  generalize trimD xs = us at *
  generalize trimD ys = vs at *
  go_enter Tryz.func293, Tryz.ntmps293
  go_wp2_with fail
  refine HT.out.mono ?_
  rintro e w' ⟨rfl, rfl⟩
  go_wp2_with fail
  refine HT'.out.mono ?_
  rintro e w' ⟨rfl, rfl⟩
  go_wp2_with (with_reducible refine append_nil64 _ rfl _ _ rfl rfl A us.length us rfl HA.out HR.out ?_)
  intro v1 w1 hsl hb
  have HB := Lib.hid hb
  have HTR := Lib.hid (trim_sl v1 us w1 HDT.out hsl)
  clear hb hsl
  go_wp2_with fail
  refine HTR.out.mono ?_
  rintro e w' ⟨rfl, v2, rfl, hb2, hsl2⟩
  go_wp2_with fail
  go_ret2
  refine ⟨_, v2, rfl, HB.out, ⟨none, 0, by rw [HQ.out.1]; rfl, by rw [HQ.out.1]; exact Nat.le_refl _, by rw [HQ.out.1]; exact Rd.nil _ _ _, fun _ => rfl⟩, ?_⟩
  rw [HQ.out.2]
  exact hsl2

/-- What the long division keeps: j places are still to come. -/
structure DivI (U V n m k : Nat) (us qs : List Nat) : Prop where
  ul : us.length = m + 1
  ql : qs.length = m - n + 1
  du : Digs B64 us
  dq : Digs B64 qs
  e : ofD B64 us + ofD B64 qs * V = U
  lt : ofD B64 (us.drop k) < V
  z : ∀ p, p < k → qs.getD p 0 = 0

/-- A piece of a row. -/
theorem cut3 {us : List Nat} {j l : Nat} : us = us.take j ++ (us.drop j).take l ++ us.drop (j + l) := by
  rw [List.append_assoc, ← List.drop_drop, List.take_append_drop, List.take_append_drop]

theorem DivI.step {U V n m j : Nat} {us qs : List Nat} (h : DivI U V n m (j + 1) us qs) (hnm : n ≤ m) (hj : j ≤ m - n) (hV : V < B64 ^ n) :
    ofD B64 ((us.drop j).take (n + 1)) < V * B64 ∧ (us.take j).length = j ∧ ((us.drop j).take (n + 1)).length = n + 1 ∧
    ∀ (q : Nat) (seg' : List Nat), q < B64 → seg'.length = n + 1 → Digs B64 seg' → ofD B64 ((us.drop j).take (n + 1)) = ofD B64 seg' + q * V → ofD B64 seg' < V →
      DivI U V n m j (us.take j ++ seg' ++ us.drop (j + (n + 1))) (qs.set j q) := by
  have hul := h.ul
  have hql := h.ql
  have hjl : j < us.length := by omega
  have hpos : 0 < B64 := by decide
  have hdrop := drop_cons hjl
  have hx := h.du.getD hpos j
  have hsl : ((us.drop j).take (n + 1)).length = n + 1 := by rw [List.length_take, List.length_drop]; omega
  have e1 : ofD B64 (us.drop j) = us.getD j 0 + B64 * ofD B64 (us.drop (j + 1)) := by rw [hdrop, ofD_cons]
  have hle : ofD B64 (us.drop j) < V * B64 := by
    have := Nat.mul_le_mul_left B64 (show ofD B64 (us.drop (j + 1)) + 1 ≤ V from h.lt)
    rw [Nat.mul_add, Nat.mul_one, Nat.mul_comm B64 V] at this
    omega
  have e2 : ofD B64 (us.drop j) = ofD B64 ((us.drop j).take (n + 1)) + B64 ^ (n + 1) * ofD B64 (us.drop (j + (n + 1))) := by
    rw [ofD_take_drop (us.drop j) (n + 1) (by rw [List.length_drop]; omega), List.drop_drop]
  have hpost : ofD B64 (us.drop (j + (n + 1))) = 0 := by
    have e3 : ofD B64 (us.drop (j + 1)) = ofD B64 ((us.drop (j + 1)).take n) + B64 ^ n * ofD B64 (us.drop (j + (n + 1))) := by
      rw [ofD_take_drop (us.drop (j + 1)) n (by rw [List.length_drop]; omega), List.drop_drop, show j + 1 + n = j + (n + 1) from by omega]
    have hl := h.lt
    rcases Nat.eq_zero_or_pos (ofD B64 (us.drop (j + (n + 1)))) with h0 | h0
    · exact h0
    · have := Nat.mul_le_mul_left (B64 ^ n) h0
      rw [Nat.mul_one] at this
      omega
  rw [hpost, Nat.mul_zero, Nat.add_zero] at e2
  have htl : (us.take j).length = j := by rw [List.length_take]; omega
  refine ⟨by rw [← e2]; exact hle, htl, hsl, fun q seg' hq hsl' hds he hlt => ?_⟩
  have hjq : j < qs.length := by omega
  have eu := ofD_take_drop (B := B64) us j (by omega)
  have enew : ofD B64 (us.take j ++ seg' ++ us.drop (j + (n + 1))) = ofD B64 (us.take j) + B64 ^ j * ofD B64 seg' := by
    rw [List.append_assoc, ofD_append, ofD_append, hpost, Nat.mul_zero, Nat.add_zero, htl]
  have eq := ofD_set (B := B64) (xs := qs) (i := j) (v := q) hjq
  rw [h.z j (by omega), Nat.mul_zero, Nat.add_zero] at eq
  exact {
    ul := by simp only [List.length_append, List.length_drop, htl, hsl']; omega
    ql := by rw [List.length_set]; exact hql
    du := ((h.du.take _).append hds).append (h.du.drop _)
    dq := h.dq.set _ hq
    e := by
      rw [enew, eq, ← h.e, eu, e2, he, Nat.add_mul, Nat.mul_add, Nat.mul_assoc]
      omega
    lt := by
      rw [List.append_assoc, List.drop_append_of_le_length (by omega), List.drop_of_length_le (by omega), List.nil_append, ofD_append, hpost, Nat.mul_zero, Nat.add_zero]
      exact hlt
    z := fun p hp => by rw [List.getD_eq_getElem?_getD, List.getElem?_set_ne (by omega), ← List.getD_eq_getElem?_getD]; exact h.z p (by omega) }

theorem divI_start {U V n m s : Nat} {zs : List Nat} (hl : zs.length = m + 1) (hd : Digs B64 zs) (hU : ofD B64 zs < B64 ^ m * 2 ^ s) (hs : s ≤ 63) (hnm : n + 1 ≤ m) (hV : B64 ^ n * 9223372036854775808 ≤ V) (hUe : U = ofD B64 zs := by rfl) :
    DivI U V (n + 1) m (m - (n + 1) + 1) zs (List.replicate (m - (n + 1) + 1) 0) := by
  have hpos : 0 < B64 := by decide
  refine ⟨hl, by simp, hd, Digs.replicate hpos _, by rw [ofD_replicate, Nat.zero_mul, Nat.add_zero, hUe], ?_, fun p _ => by rw [List.getD_eq_getElem?_getD, List.getElem?_replicate]; split <;> rfl⟩
  rw [ofD_drop_div hpos hd, Nat.div_lt_iff_lt_mul (Nat.pow_pos hpos)]
  refine Nat.lt_of_lt_of_le hU ?_
  have e : B64 ^ m = B64 ^ n * B64 ^ (m - (n + 1) + 1) := by rw [← Nat.pow_add]; congr 1; omega
  have h2 : 2 ^ s ≤ 2 ^ 63 := Nat.pow_le_pow_right (by decide) hs
  rw [e, Nat.mul_right_comm]
  exact Nat.mul_le_mul_right _ (Nat.le_trans (Nat.mul_le_mul_left _ h2) hV)

theorem top_ge {vs : List Nat} {n s : Nat} (hn : vs.length = n + 1) (h : 9223372036854775808 ≤ vs.getD n 0 * 2 ^ s) : B64 ^ n * 9223372036854775808 ≤ ofD B64 vs * 2 ^ s := by
  have e := ofD_take_succ (B := B64) (xs := vs) (i := n) (by omega)
  rw [List.take_of_length_le (by omega)] at e
  rw [e, Nat.add_mul, Nat.mul_assoc]
  exact Nat.le_trans (Nat.mul_le_mul_left _ h) (Nat.le_add_left _ _)

theorem divI_end {U V n m s a b : Nat} {us qs : List Nat} (h : DivI U V (n + 1) m 0 us qs) (hU : U = a * 2 ^ s) (hV : V = b * 2 ^ s) (hVB : V < B64 ^ (n + 1)) (hnm : n + 1 ≤ m) :
    Hid (ofD B64 qs = a / b) ∧ Hid (ofD B64 us = a % b * 2 ^ s) ∧ Hid (us.getD 0 0 % 2 ^ s = 0) ∧ Hid (us.getD (n + 1) 0 = 0 ∧ ofD B64 (us.take (n + 1)) = ofD B64 us) := by
  have hps : 0 < 2 ^ s := Nat.pow_pos (by decide)
  have hpos : 0 < B64 := by decide
  have hlt := h.lt
  rw [List.drop_zero] at hlt
  have he := h.e
  have hb : 0 < b := by
    rcases Nat.eq_zero_or_pos b with h0 | h0
    · rw [hV, h0, Nat.zero_mul] at hlt; omega
    · exact h0
  have hq : a / b = ofD B64 qs := by
    have : a * 2 ^ s / (b * 2 ^ s) = ofD B64 qs := by
      rw [← hU, ← hV, ← he, Nat.add_mul_div_right _ _ (by omega), Nat.div_eq_of_lt hlt, Nat.zero_add]
    rwa [Nat.mul_div_mul_right _ _ hps] at this
  have hr : ofD B64 us = a % b * 2 ^ s := by
    have h1 := Nat.div_add_mod a b
    have h2 := congrArg (· * 2 ^ s) h1
    simp only [Nat.add_mul] at h2
    rw [hq, Nat.mul_comm b, Nat.mul_assoc, ← hV, ← hU] at h2
    omega
  have htop : us.getD (n + 1) 0 = 0 ∧ ofD B64 (us.take (n + 1)) = ofD B64 us := by
    have h1 := ofD_take_mod hpos h.du (n + 1)
    rw [Nat.mod_eq_of_lt (by omega)] at h1
    refine ⟨?_, h1⟩
    have h2 := getD_ofD hpos h.du (i := n + 1) (by rw [h.ul]; omega)
    rw [h2, Nat.div_eq_of_lt (by omega)]; rfl
  refine ⟨hq.symm, hr, ?_, htop⟩
  show us.getD 0 0 % 2 ^ s = 0
  have h3 := getD_ofD hpos h.du (i := 0) (by rw [h.ul]; omega)
  rw [Nat.pow_zero, Nat.div_one] at h3
  rw [h3, hr]
  rcases Nat.lt_or_ge 64 s with hgt | hle
  · have : 2 ^ s = B64 * 2 ^ (s - 64) := by rw [B64_2, ← Nat.pow_add]; congr 1; omega
    rw [show a % b * 2 ^ s = B64 * (a % b * 2 ^ (s - 64)) from by rw [this, Nat.mul_left_comm], Nat.mul_mod_right, Nat.zero_mod]
  · have : B64 = 2 ^ s * 2 ^ (64 - s) := by rw [B64_2, ← Nat.pow_add]; congr 1; omega
    rw [this, Nat.mod_mul_right_mod, Nat.mul_mod_left]

theorem unshift {x y s : Nat} (hs : s < 64) (hx : x < 18446744073709551616) (_hy : y < 18446744073709551616) :
    ∃ r1 c z : Nat, (x : Int) / 2 ^ s = (r1 : Int) ∧ IntKind.u64.wrap ((y : Int) * 2 ^ (64 - s)) = (c : Int) ∧ bits .or .u64 (r1 : Int) (c : Int) = (z : Int) ∧ r1 < 18446744073709551616 ∧ c < 18446744073709551616 ∧ z < 18446744073709551616 ∧ z = r1 + c ∧
      x + B64 * (y % 2 ^ s) = 2 ^ s * z + x % 2 ^ s := by
  have hps : 0 < 2 ^ s := Nat.pow_pos (by decide)
  have hpt : 0 < 2 ^ (64 - s) := Nat.pow_pos (by decide)
  have e : 18446744073709551616 = 2 ^ s * 2 ^ (64 - s) := by rw [← Nat.pow_add, show s + (64 - s) = 64 from by omega]
  have hc : y * 2 ^ (64 - s) % 18446744073709551616 = y % 2 ^ s * 2 ^ (64 - s) := by rw [e, Nat.mul_mod_mul_right]
  have hr1 : x / 2 ^ s < 2 ^ (64 - s) := by rw [Nat.div_lt_iff_lt_mul hps, Nat.mul_comm, ← e]; exact hx
  have hys : y % 2 ^ s < 2 ^ s := Nat.mod_lt _ hps
  have hcl : y % 2 ^ s * 2 ^ (64 - s) + 2 ^ (64 - s) ≤ 18446744073709551616 := by
    have := Nat.mul_le_mul_right (2 ^ (64 - s)) (show y % 2 ^ s + 1 ≤ 2 ^ s from hys)
    rw [← e, Nat.add_mul, Nat.one_mul] at this
    exact this
  refine ⟨x / 2 ^ s, y % 2 ^ s * 2 ^ (64 - s), x / 2 ^ s + y % 2 ^ s * 2 ^ (64 - s), ?_, ?_, ?_, by omega, by omega, by omega, rfl, ?_⟩
  · rw [Int.natCast_ediv, Int.natCast_pow]; rfl
  · have e2 : (y : Int) * 2 ^ (64 - s) = ((y * 2 ^ (64 - s) : Nat) : Int) := by rw [Int.natCast_mul, Int.natCast_pow]; rfl
    rw [e2, IntKind.wrap_u64, ← hc]; omega
  · rw [u64_or_nat _ _ (by omega) (by omega), Nat.or_comm, nat_join (64 - s) _ _ (Nat.mul_mod_left _ _) hr1, Nat.add_comm]
  · have h1 := Nat.div_add_mod x (2 ^ s)
    have h2 : 2 ^ s * (y % 2 ^ s * 2 ^ (64 - s)) = B64 * (y % 2 ^ s) := by rw [B64_eq, e, Nat.mul_left_comm, Nat.mul_comm]
    rw [Nat.mul_add, h2]
    omega

theorem unshift0 {y c r1 z s : Nat} (hs : s = 0) (e : IntKind.u64.wrap ((y : Int) * 2 ^ (64 - s)) = (c : Int)) (_hc : c < 18446744073709551616) (hz : z = r1 + c) : z = r1 := by
  subst hs
  have e2 : (y : Int) * 2 ^ (64 - 0) = ((y * 18446744073709551616 : Nat) : Int) := by rw [Int.natCast_mul]; rfl
  rw [e2, IntKind.wrap_u64] at e
  omega
theorem unshift_end {A P u s r a R : Nat} (h : A + P * (u % 2 ^ s) = 2 ^ s * R) (hu : u = 0) (hA : A = a * 2 ^ s) (hR : R = r) : r = a := by
  subst hu; subst hR; subst hA
  rw [Nat.zero_mod, Nat.mul_zero, Nat.add_zero, Nat.mul_comm] at h
  exact (Nat.eq_of_mul_eq_mul_left (Nat.pow_pos (by decide)) h).symm

theorem unshift_step {A P T x y r R : Nat} (h : A + P * (x % T) = T * R) (e : x + B64 * y = T * r + x % T) : A + P * x + P * B64 * y = T * (R + P * r) := by
  have h1 := congrArg (P * ·) e
  simp only [Nat.mul_add, ← Nat.mul_assoc] at *
  rw [Nat.mul_comm T P]
  omega

theorem divmod_big (A A' : Option Addr) (cap cap' : Nat) (xs ys : List Nat) (w : World) (hc : xs.length ≤ cap) (hc' : ys.length ≤ cap') (hbig : xs.length < 1099511627775) (hr : Rd w .u64 A xs) (hr' : Rd w .u64 A' ys) (hd : Digs B64 xs) (hd' : Digs B64 ys) (hge : (trimD ys).length ≤ (trimD xs).length) (h0 : ofD B64 ys ≠ 0) :
    Calls Tryz.prog 293 #[.slice A xs.length cap, .slice A' ys.length cap'] w (RetSl2 w (lm (ofD B64 xs / ofD B64 ys)) (lm (ofD B64 xs % ofD B64 ys))) := by
  have HT := Lib.hid (trim_any A cap xs w hc hr)
  have HT' := Lib.hid (trim_any A' cap' ys w hc' hr')
  have HR : Hid (Rd w .u64 A (trimD xs)) := hr.take _
  have HR' : Hid (Rd w .u64 A' (trimD ys)) := hr'.take _
  have HD := Lib.hid hd.trimD
  have HD' := Lib.hid hd'.trimD
  have hnz : 0 < (trimD ys).length := by
    rcases Nat.eq_zero_or_pos (trimD ys).length with h | h
    · exfalso; apply h0; rw [← ofD_trimD, List.eq_nil_of_length_eq_zero h]; rfl
    · exact h
  have hlast := trimD_last hnz
  have hml : (trimD xs).length < 1099511627775 := Nat.lt_of_le_of_lt (length_trimD_le xs) hbig
  rw [← ofD_trimD B64 xs, ← ofD_trimD B64 ys] at *
  clear hr hr' hd hd' hbig
  generalize trimD xs = us at *
  generalize trimD ys = vs at *
  obtain ⟨n, hn⟩ : ∃ n, vs.length = n + 1 := ⟨vs.length - 1, by omega⟩
  obtain ⟨m, hm⟩ : ∃ m, us.length = m := ⟨_, rfl⟩
  rw [hn, Nat.add_sub_cancel] at hlast
  obtain ⟨bb, bo, rfl, hcv⟩ := HR'.out.at (j := n) (by omega)
  have hvb := HD'.out.getD (by decide) n
  rw [B64_eq] at hvb
  have hbl := bl64 hvb
  have hbp := bl_pos hlast
  have HBS := Lib.hid (bl_spec hlast)
  have HLZ := fun w => Lib.hid (lz_any _ hvb w)
  obtain ⟨s, hs⟩ : ∃ s, s = 64 - bl (vs.getD n 0) := ⟨_, rfl⟩
  rw [← hs] at HLZ
  have hs64 : s < 64 := by omega
  have hsv := Lib.hid (shifted_any (some ⟨bb, bo, none⟩) (n + 1) vs s (n + 1) w (by omega) (by omega) (by omega) hs64 HR'.out HD'.out (by
    rw [Nat.add_sub_cancel, Nat.div_eq_of_lt]
    rw [hs, show 64 - (64 - bl (vs.getD n 0)) = bl (vs.getD n 0) from by omega]; exact HBS.out.2))
  have hsu := fun w1 (hb : Below w.heap.size w w1) => Lib.hid (shifted_any A m us s (m + 1) w1 (by omega) (by omega) (by omega) hs64 (HR.out.below hb) HD.out (by
    rw [Nat.add_sub_cancel, List.getD_eq_getElem?_getD, List.getElem?_eq_none (by omega)]; simp))
  rw [hn] at HT' hsv
  rw [hm] at HT hsu
  have t1 : decide ((m : Int) < (n : Int) + 1) = false := decide_eq_false (by omega)
  have hmb : m < 1099511627775 := by omega
  have hnb : n < 1099511627775 := by omega
  have HVT : Hid (B64 ^ n * 9223372036854775808 ≤ ofD B64 vs * 2 ^ s) := by
    refine top_ge hn ?_
    have h1 := Nat.mul_le_mul_right (2 ^ s) HBS.out.1
    rw [← Nat.pow_add, show bl (vs.getD n 0) - 1 + s = 63 from by omega] at h1
    exact h1
  have HM := Lib.hid hm
  have hge2 : n + 1 ≤ m := by omega
  have HSS := Lib.hid hs
  have HLA := Lib.hid hlast
  clear hge hm hn hs hlast h0 hnz hbl hbp
  generalize vs.getD n 0 = v0 at *
  go_enter Tryz.func293, Tryz.ntmps293
  go_wp2_with fail
  refine HT.out.mono ?_
  rintro e w' ⟨rfl, rfl⟩
  go_wp2_with fail
  refine HT'.out.mono ?_
  rintro e w' ⟨rfl, rfl⟩
  go_wp2_with fail
  refine (HLZ _).out.mono ?_
  rintro e w' ⟨rfl, rfl⟩
  go_wp2_with fail
  refine hsv.out.mono ?_
  rintro e w1 ⟨ws, rfl, hb1, hrv, hwl, hdw, hwv⟩
  have HB1 := Lib.hid hb1
  have HRV := Lib.hid hrv
  have HWL := Lib.hid hwl
  have HDW := Lib.hid hdw
  have HWV := Lib.hid hwv
  clear hb1 hrv hwl hdw hwv
  go_wp2_with fail
  refine (hsu w1 HB1.out).out.mono ?_
  rintro e w2 ⟨zs, rfl, hb2, hru, hzl, hdz, hzv⟩
  have HB2 := Lib.hid hb2
  have HRU := Lib.hid hru
  have HZL := Lib.hid hzl
  have HDZ := Lib.hid hdz
  have HZV := Lib.hid hzv
  clear hb2 hru hzl hdz hzv
  have hmk := mk64 (((m : Nat) : Int) - ((n : Int) + 1) + 1) (m - (n + 1) + 1) (by omega) (by omega)
  have HI0 : Hid (DivI (ofD B64 zs) (ofD B64 ws) (n + 1) m (m - (n + 1) + 1) zs (List.replicate (m - (n + 1) + 1) 0)) :=
    divI_start HZL.out HDZ.out (by rw [HZV.out]; exact Nat.mul_lt_mul_of_pos_right (by rw [← HM.out]; exact ofD_lt HD.out) (Nat.pow_pos (by decide))) (by omega) hge2 (by rw [HWV.out]; exact HVT.out)
  have hl1 : w.heap.size < w1.heap.size := HRV.out.lt
  have hl2 : w1.heap.size < w2.heap.size := HRU.out.lt
  have HBA : Hid (Below w.heap.size w w2) := HB1.out.trans (HB2.out.mono (by omega))
  have HRV2 : Hid (Row w2 w.heap.size .u64 22 ws) := HRV.out.below HB2.out
  have HVB : Hid (ofD B64 ws < B64 ^ (n + 1)) := by have := ofD_lt HDW.out; rwa [HWL.out] at this
  go_wp2_with fail
  go_loopw [11] (fun i wr => ∃ (k : Nat) (us' qs : List Nat), k ≤ m - (n + 1) + 1 ∧ i = .int .i64 ((k : Int) - 1) ∧ Below w.heap.size w wr ∧ Row wr w.heap.size .u64 22 ws ∧ Row wr w1.heap.size .u64 22 us' ∧ Row wr w2.heap.size .u64 22 qs ∧ Hid (DivI (ofD B64 zs) (ofD B64 ws) (n + 1) m k us' qs)) (fun i _ => (intOf i + 1).toNat)
  case atStart =>
    refine ⟨m - (n + 1) + 1, zs, List.replicate (m - (n + 1) + 1) 0, Nat.le_refl _, ?_, HBA.out.alloc (by omega) _, HRV2.out.below ((Below.refl _ _).alloc (Nat.le_refl _) _), HRU.out.below ((Below.refl _ _).alloc (Nat.le_refl _) _), Row.alloc rfl, HI0⟩
    exact congrArg (Value.int .i64) (by omega)
  case round =>
    obtain ⟨k, us', qs, hk, rfl, hb, hrv, hru, hrq, HI⟩ := hrel
    have HB := Lib.hid hb
    have HRV3 := Lib.hid hrv
    have HRU3 := Lib.hid hru
    have HRQ3 := Lib.hid hrq
    clear hb hrv hru hrq
    rcases k with _ | j
    · have hmk2 := mk64 (((n : Nat) : Int) + 1) (n + 1) (by omega) (by omega)
      have hl3 : w2.heap.size < wr.heap.size := HRQ3.out.lt
      have hul := HI.out.ul
      obtain ⟨HQE, HRE, HU0, HUN⟩ := divI_end (a := ofD B64 us) (b := ofD B64 vs) HI.out HZV.out HWV.out HVB.out hge2
      clear hmk
      obtain ⟨wo, rfl⟩ : ∃ wo : World, wo = wr := ⟨_, rfl⟩
      go_wp2_with fail
      go_loopw [69] (fun i wx => ∃ (k : Nat) (rs : List Nat), k ≤ n + 1 ∧ i = .int .i64 (k : Nat) ∧ Below w.heap.size w wx ∧ Row wx w1.heap.size .u64 22 us' ∧ Row wx w2.heap.size .u64 22 qs ∧ Row wx wo.heap.size .u64 22 rs ∧ rs.length = n + 1 ∧ Digs B64 rs ∧ ofD B64 (us'.take k) + B64 ^ k * (us'.getD k 0 % 2 ^ s) = 2 ^ s * ofD B64 (rs.take k)) (fun i _ => n + 1 - (intOf i).toNat)
      case atStart => exact ⟨0, List.replicate (n + 1) 0, Nat.zero_le _, rfl, HB.out.alloc (by have := HB.out.size; omega) _, HRU3.out.below ((Below.refl _ _).alloc (Nat.le_refl _) _), HRQ3.out.below ((Below.refl _ _).alloc (Nat.le_refl _) _), Row.alloc rfl, by simp, Digs.replicate (by decide) _, by rw [HU0.out]; simp [ofD]⟩
      case round =>
        obtain ⟨k, rs, hk, rfl, hb5, hru5, hrq5, hrr5, hrl, hdr, hval⟩ := hrel
        have HB5 := Lib.hid hb5
        have HRU5 := Lib.hid hru5
        have HRQ5 := Lib.hid hrq5
        have HRL := Lib.hid hrl
        have HDR := Lib.hid hdr
        have HVL := Lib.hid hval
        clear hb5 hrq5 hrl hdr hval
        by_cases hlt : k < n + 1
        · have hc1 := hru5.cell (i := k) (by omega)
          have hc2 := hru5.cell (i := k + 1) (by omega)
          have hrk : k < rs.length := by rw [HRL.out]; omega
          have hx := HI.out.du.getD (by decide) k
          have hy := HI.out.du.getD (by decide) (k + 1)
          rw [B64_eq] at hx hy
          obtain ⟨r1, c, z, e1, e2, e3, hr1, hc, hsum, hzz, hst⟩ := unshift hs64 hx hy
          have HZZ := Lib.hid hzz
          clear hzz
          have HTK := Lib.hid (ofD_take_succ (B := B64) (xs := us') (i := k) (by omega))
          have HTS := fun v => Lib.hid (ofD_take_set (B := B64) (zs := rs) (v := v) hrk)
          have HN : Hid (ofD B64 (us'.take (k + 1)) + B64 ^ (k + 1) * (us'.getD (k + 1) 0 % 2 ^ s) = 2 ^ s * ofD B64 ((rs.set k z).take (k + 1))) := by
            show _ = _
            rw [HTK.out, (HTS _).out, Nat.pow_succ]
            exact unshift_step HVL.out hst
          have hcr := hrr5.cell hrk
          have hfr := hrr5.frozen k
          have hst1 := hrr5.set k r1
          have hcA := hst1.cell (i := k) (by rw [List.length_set]; exact hrk)
          have hfA := hst1.frozen k
          rw [show (rs.set k r1).getD k 0 = r1 from by rw [List.getD_eq_getElem?_getD, List.getElem?_set_self hrk]; rfl] at hcA
          have hcU1 := (hru5.far (a := ⟨wo.heap.size, k, none⟩) (by show w1.heap.size ≠ wo.heap.size; omega) (.int .u64 (r1 : Nat)))
          have hcU2 := hcU1.cell (i := k + 1) (by omega)
          have HU5 := Lib.hid hru5
          have HR5 := Lib.hid hrr5
          have HS1 := Lib.hid hst1
          have HU1 := Lib.hid hcU1
          clear hst HTK HTS hru5 hrr5 hst1 hcU1
          generalize us'.getD k 0 = x at *
          generalize hgy : us'.getD (k + 1) 0 = y at *
          have HGY := Lib.hid hgy
          have HN' : Hid (ofD B64 (us'.take (k + 1)) + B64 ^ (k + 1) * (us'.getD (k + 1) 0 % 2 ^ s) = 2 ^ s * ofD B64 ((rs.set k z).take (k + 1))) := by
            show _ = _
            rw [HGY.out]; exact HN.out
          clear hgy HN
          have hst2 : Row ((wr.setCell ⟨wo.heap.size, k, none⟩ (.int .u64 (r1 : Nat))).setCell ⟨wo.heap.size, k, none⟩ (.int .u64 (z : Nat))) wo.heap.size .u64 22 (rs.set k z) := by
            have := HS1.out.set k z
            rwa [List.set_set] at this
          have HS2 := Lib.hid hst2
          have HDZ2 : Hid (Digs B64 (rs.set k z)) := HDR.out.set _ (by rw [B64_eq]; exact hsum)
          have hwo : w.heap.size ≤ wo.heap.size := HB.out.size
          clear hst2
          rcases Nat.eq_zero_or_pos s with hs0 | hs0
          · have hsp : decide (0 < s) = false := decide_eq_false (by omega)
            have hz1 : z = r1 := unshift0 hs0 e2 hc HZZ.out
            have HZ1 := Lib.hid hz1
            have hs0' := Lib.hid hs0
            clear hs0 hz1
            go_wp2_with fail
            go_roundw
            case rel => exact ⟨k + 1, rs.set k z, hlt, by go_num, HB5.out.setCell hwo _, HU1.out, HRQ5.out.far (by show w2.heap.size ≠ wo.heap.size; omega) _, by rw [HZ1.out]; exact HS1.out, by rw [List.length_set]; exact HRL.out, HDZ2.out, HN'.out⟩
            case measure => simp [intOf]; omega
          · have hsp : decide ((0 : Int) < (s : Int)) = true := decide_eq_true (by omega)
            have hs0' := Lib.hid hs0
            clear hs0
            go_wp2_with fail
            go_region
            go_wp2_with fail
            go_roundw
            case rel => exact ⟨k + 1, rs.set k z, hlt, by go_num, ((HB5.out.setCell hwo _).setCell hwo _).drew, (HU1.out.far (by show w1.heap.size ≠ wo.heap.size; omega) _).drew, ((HRQ5.out.far (by show w2.heap.size ≠ wo.heap.size; omega) _).far (by show w2.heap.size ≠ wo.heap.size; omega) _).drew, HS2.out.drew, by rw [List.length_set]; exact HRL.out, HDZ2.out, HN'.out⟩
            case measure => simp [intOf]; omega
        · have hkk : k = n + 1 := by omega
          subst hkk
          have HTQ := fun w4 (h : Row w4 w2.heap.size .u64 22 qs) => Lib.hid (trim_sl (.slice (some ⟨w2.heap.size, 0, none⟩) (m - (n + 1) + 1) (m - (n + 1) + 1)) qs w4 HI.out.dq ⟨_, _, by rw [HI.out.ql], by rw [HI.out.ql]; exact Nat.le_refl _, h.rd (by rw [HI.out.ql]; omega), nofun⟩)
          have HTR := fun w4 (h : Row w4 wo.heap.size .u64 22 rs) => Lib.hid (trim_sl (.slice (some ⟨wo.heap.size, 0, none⟩) (n + 1) (n + 1)) rs w4 HDR.out ⟨_, _, by rw [HRL.out], by rw [HRL.out]; exact Nat.le_refl _, h.rd (by rw [HRL.out]; omega), nofun⟩)
          have HR5 := Lib.hid hrr5
          clear hru5 hrr5
          go_wp2_with fail
          refine (HTQ _ HRQ5.out).out.mono ?_
          rintro e w' ⟨rfl, v1, rfl, hb8, hs1⟩
          have HS1 := Lib.hid hs1
          clear hb8 hs1
          go_wp2_with fail
          refine (HTR _ HR5.out).out.mono ?_
          rintro e w' ⟨rfl, v2, rfl, hb8, hs2⟩
          have HS2 := Lib.hid hs2
          clear hb8 hs2
          go_wp2_with fail
          go_ret2
          refine ⟨v1, v2, rfl, HB5.out, ?_, ?_⟩
          · rw [← HQE.out]; exact HS1.out
          · rw [← unshift_end HVL.out HUN.out.1 (HUN.out.2.trans HRE.out) (ofD_take_all rs (by rw [HRL.out]; exact Nat.le_refl _))]
            exact HS2.out
    · obtain ⟨h1, h2, h3, HN⟩ := HI.out.step hge2 (by omega) HVB.out
      have HG : Hid (Guess wr w1.heap.size w.heap.size (us'.take j) ((us'.drop j).take (n + 1 + 1)) (us'.drop (j + (n + 1 + 1))) ws n) :=
        { hn := HWL.out, hs := h3, bb := by omega, row := by rw [← cut3]; exact HRU3.out, rowv := HRV3.out, hd := (HI.out.du.drop _).take _, hdv := HDW.out, hlt := h1 }
      have HST := fun cap cap' => Lib.hid (step_any w1.heap.size w.heap.size cap cap' n _ _ _ _ wr (by rw [h2]; omega) HG.out)
      rw [h2] at HST
      have HNN := Lib.hid HN
      have H2 := Lib.hid h2
      clear h1 h2 h3 HN
      have hql : j < qs.length := by rw [HI.out.ql]; omega
      go_wp2_with fail
      rw [show j + (n + 1) + 1 - j = n + 1 + 1 from by omega]
      refine (HST _ _).out.mono ?_
      rintro e w3 ⟨q, seg', rfl, hq, hon, hrow3, hsl3, hds3, he3, hlt3⟩
      have hrq3 := hon.row (show w2.heap.size ≠ w1.heap.size by omega) HRQ3.out
      have hqc := hrq3.cell hql
      have hqf := hrq3.frozen j
      have hq64 := hq
      rw [B64_eq] at hq64
      have HNN2 := Lib.hid (HNN.out q seg' hq (by rw [hsl3, List.length_take, List.length_drop, HI.out.ul]; omega) hds3 he3 hlt3)
      have HB4 := Lib.hid (HB.out.trans (hon.below (B := w.heap.size) (by omega)))
      have HRV4 := Lib.hid (hon.row (show w.heap.size ≠ w1.heap.size by omega) HRV3.out)
      have HRU4 := Lib.hid hrow3
      have hrq4 := hrq3.set j q
      have HRQ4 := Lib.hid hrq4
      clear hq hon hrow3 hsl3 hds3 he3 hlt3 hrq3 hrq4 HST HNN
      go_wp2_with fail
      go_roundw
      case rel => exact ⟨j, _, qs.set j q, by omega, by go_num, HB4.out.setCell (by show w.heap.size ≤ w2.heap.size; omega) _, HRV4.out.far (by show w.heap.size ≠ w2.heap.size; omega) _, HRU4.out.far (by show w1.heap.size ≠ w2.heap.size; omega) _, HRQ4.out, HNN2⟩
      case measure => simp [intOf]
theorem divmod_any (A A' : Option Addr) (cap cap' : Nat) (xs ys : List Nat) (w : World) (hc : xs.length ≤ cap) (hc' : ys.length ≤ cap') (hA : A = none → cap = 0) (hbig : xs.length < 1099511627775) (hr : Rd w .u64 A xs) (hr' : Rd w .u64 A' ys) (hd : Digs B64 xs) (hd' : Digs B64 ys) (h0 : ofD B64 ys ≠ 0) :
    Calls Tryz.prog 293 #[.slice A xs.length cap, .slice A' ys.length cap'] w (RetSl2 w (lm (ofD B64 xs / ofD B64 ys)) (lm (ofD B64 xs % ofD B64 ys))) := by
  rcases Nat.lt_or_ge (trimD xs).length (trimD ys).length with h | h
  · exact divmod_small A A' cap cap' xs ys w hc hc' hA hr hr' hd h
  · exact divmod_big A A' cap cap' xs ys w hc hc' hbig hr hr' hd hd' h h0

end Go.Proofs.YtjokcbjahidckaaGreat
/-! mont.times: a row of limbs gets a multiple of some limbs. Conditions: the row is no shorter, in a block of its own. -/
namespace Go.Proofs.YtjokcbjahidckaaGreat
open Go.RowKit

def TimesPost (w : World) (b : Nat) (t : TypeId) (pre seg post : List Nat) (x : Nat) (ys : List Nat) (e : Ending) (w' : World) : Prop :=
  ∃ (c : Nat) (sg : List Nat), e = .returned (.int .u64 (c : Nat)) ∧ c < B64 ∧ OnlyB b w w' ∧ Row w' b .u64 t (pre ++ sg ++ post) ∧ sg.length = seg.length ∧ Digs B64 sg ∧
    ofD B64 (sg.take ys.length) + B64 ^ ys.length * c = ofD B64 (seg.take ys.length) + x * ofD B64 ys ∧ ∀ p, ys.length ≤ p → sg.getD p 0 = seg.getD p 0

theorem times_step {U Z P cy x Y y a h l s1 c1 s2 c2 : Nat} (e0 : U + P * cy = Z + x * Y) (e1 : x * y = l + B64 * h) (e2 : l + a = s1 + B64 * c1) (e3 : s1 + cy = s2 + B64 * c2) :
    U + P * s2 + P * B64 * (h + c1 + c2) = Z + P * a + x * (Y + P * y) := by
  have t1 := congrArg (P * ·) e1
  have t2 := congrArg (P * ·) e2
  have t3 := congrArg (P * ·) e3
  have t4 : x * (P * y) = P * (x * y) := Nat.mul_left_comm _ _ _
  simp only [Nat.mul_add, ← Nat.mul_assoc] at *
  omega

set_option maxHeartbeats 2000000 in
theorem times_any (b : Nat) (t : TypeId) (A : Option Addr) (cap cap' x : Nat) (pre seg post ys : List Nat) (w : World) (hx : x < B64) (hl : ys.length ≤ seg.length) (hr : Rd w .u64 A ys) (hne : ∀ b' off, A = some ⟨b', off, none⟩ → b' ≠ b)
    (hrow : Row w b .u64 t (pre ++ seg ++ post)) (hd : Digs B64 seg) (hdy : Digs B64 ys) :
    Calls Tryz.prog 360 #[.int .u64 (x : Nat), .slice A ys.length cap, .slice (some ⟨b, pre.length, none⟩) seg.length cap'] w (TimesPost w b t pre seg post x ys) := by
  have hyl := hr.1
  have HR := Lib.hid hr
  have HROW := Lib.hid hrow
  have HD := Lib.hid hd
  have HDY := Lib.hid hdy
  rw [B64_eq] at hx
  clear hr hrow hd hdy
  go_enter Tryz.func360, Tryz.ntmps360
  go_wp2_with fail
  go_loopw [7, 15] (fun c i wr => ∃ (k cy : Nat) (sg : List Nat), k ≤ ys.length ∧ i = .int .i64 k ∧ c = .int .u64 cy ∧ cy < 18446744073709551616 ∧ OnlyB b w wr ∧ Row wr b .u64 t (pre ++ sg ++ post) ∧ sg.length = seg.length ∧ Digs B64 sg ∧
    ofD B64 (sg.take k) + B64 ^ k * cy = ofD B64 (seg.take k) + x * ofD B64 (ys.take k) ∧ ∀ p, k ≤ p → sg.getD p 0 = seg.getD p 0) (fun _ i _ => ys.length - (intOf i).toNat)
  case atStart => exact ⟨0, 0, seg, Nat.zero_le _, rfl, rfl, by omega, OnlyB.refl _ _, HROW.out, rfl, HD.out, by simp [ofD], fun _ _ => rfl⟩
  case round =>
    obtain ⟨k, cy, sg, hk, rfl, rfl, hcy, hon, hrow, hsl, hds, hE, hsame⟩ := hrel
    have HSL := Lib.hid hsl
    have HE := Lib.hid hE
    have HSA := Lib.hid hsame
    have HON := Lib.hid hon
    clear hsl hE hsame
    by_cases hlt : k < ys.length
    · obtain ⟨b', off', rfl, hcell'⟩ := HR.out.at hlt
      have hnb := hne _ _ rfl
      have hcy2 := (hon.cell (a := ⟨b', off' + k, none⟩) hnb).trans hcell'
      have hy := HDY.out.getD (by decide) k
      have hks : k < sg.length := by have := HSL.out; omega
      have hc2 := hrow.mid hks
      have hf2 := hrow.frozen (pre.length + k)
      have ha := hds.getD (by decide) k
      rw [B64_eq] at hy ha
      have HSET := fun v => Lib.hid (hrow.setMid hks v)
      have HT1 := Lib.hid (ofD_take_succ (B := B64) (xs := seg) (i := k) (by omega))
      have HT2 := Lib.hid (ofD_take_getD (B := B64) ys k)
      have HT3 := fun v => Lib.hid (ofD_take_set (B := B64) (zs := sg) (i := k) (v := v) hks)
      rw [← HSA.out k (Nat.le_refl _)] at HT1
      clear hcell' hon hrow
      generalize sg.getD k 0 = a at *
      generalize ys.getD k 0 = y at *
      obtain ⟨h, l, hh, hl1, hm1, hmul⟩ := mul64_ex x y hx hy
      obtain ⟨s1, c1, hs1, hc1, hm2, hadd1⟩ := add64_ex0 l a hl1 ha
      obtain ⟨s2, c2, hs2, hc2', hm3, hadd2⟩ := add64_ex0 s1 cy hs1 hcy
      have hbig : h + c1 + c2 < 18446744073709551616 := mul_carry hx hy ha hcy hm1 hm2 hm3
      have hbig1 : h + c1 < 18446744073709551616 := by omega
      have HN : Hid (ofD B64 ((sg.set k s2).take (k + 1)) + B64 ^ (k + 1) * (h + c1 + c2) = ofD B64 (seg.take (k + 1)) + x * ofD B64 (ys.take (k + 1))) := by
        show _ = _
        rw [HT1.out, HT2.out, (HT3 s2).out, Nat.pow_succ]
        exact times_step HE.out hm1 hm2 hm3
      have HM := fun w => Lib.hid (hmul w)
      clear hm1 hm2 hm3 HT1 HT2 HT3 hmul
      go_wp2_with (go_at_call 250; refine (HM _).out.mono ?_; rintro e w' ⟨rfl, rfl⟩)
      go_roundw
      case rel => exact ⟨k + 1, h + c1 + c2, sg.set k s2, hlt, by go_num, by go_num, hbig, HON.out.setCell _ _, (HSET s2).out, by rw [List.length_set]; exact HSL.out, hds.set _ (by rw [B64_eq]; exact hs2), HN.out, fun p hp => by
        rw [List.getD_eq_getElem?_getD, List.getElem?_set_ne (by omega), ← List.getD_eq_getElem?_getD]; exact HSA.out p (by omega)⟩
      case measure => simp [intOf]; omega
    · have hkk : k = ys.length := by omega
      subst hkk
      have HROW2 := Lib.hid hrow
      clear hrow hon
      go_wp2_with fail
      go_ret
      refine ⟨cy, sg, rfl, by rw [B64_eq]; exact hcy, HON.out, HROW2.out, HSL.out, hds, ?_, HSA.out⟩
      have := HE.out
      rwa [List.take_length] at this
end Go.Proofs.YtjokcbjahidckaaGreat
/-! mont: a field in memory; what is below the prime; sums and differences. Conditions: a field lies there, numbers are below its prime. -/
namespace Go.Proofs.YtjokcbjahidckaaGreat
open Go.RowKit

/-- A number as an array of six limbs. -/
def elv (x : Nat) : Value := .agg (cellsOf .u64 (digs B64 6 x))

theorem Row.alloc_at {w : World} {k : IntKind} {t : TypeId} {xs : List Nat} {cs : Array Value} {n : Nat} (h : cs = cellsOf k xs) (hn : n = w.heap.size) : Row (w.alloc (.cells cs t)) n k t xs := by
  subst hn
  exact Row.alloc h

theorem Row.put6 {w : World} {b : Nat} {t : TypeId} {s0 s1 s2 s3 s4 s5 : Nat} (h : Row w b .u64 t [s0, s1, s2, s3, s4, s5]) (d0 d1 d2 d3 d4 d5 : Nat) :
    Row ((((((w.setCell ⟨b, 0, none⟩ (.int .u64 (d0 : Nat))).setCell ⟨b, 1, none⟩ (.int .u64 (d1 : Nat))).setCell ⟨b, 2, none⟩ (.int .u64 (d2 : Nat))).setCell ⟨b, 3, none⟩ (.int .u64 (d3 : Nat))).setCell ⟨b, 4, none⟩ (.int .u64 (d4 : Nat))).setCell ⟨b, 5, none⟩ (.int .u64 (d5 : Nat))) b .u64 t [d0, d1, d2, d3, d4, d5] :=
  (((((h.set 0 d0).set 1 d1).set 2 d2).set 3 d3).set 4 d4).set 5 d5
theorem Below.put6 {B b : Nat} {w w1 : World} (h : Below B w w1) (hB : B ≤ b) (v0 v1 v2 v3 v4 v5 : Value) :
    Below B w ((((((w1.setCell ⟨b, 0, none⟩ v0).setCell ⟨b, 1, none⟩ v1).setCell ⟨b, 2, none⟩ v2).setCell ⟨b, 3, none⟩ v3).setCell ⟨b, 4, none⟩ v4).setCell ⟨b, 5, none⟩ v5) :=
  (((((h.setCell hB _).setCell hB _).setCell hB _).setCell hB _).setCell hB _).setCell hB _

theorem six {xs : List Nat} (h : xs.length = 6) : ∃ d0 d1 d2 d3 d4 d5, xs = [d0, d1, d2, d3, d4, d5] := by
  match xs, h with
  | [a, b, c, d, e, f], _ => exact ⟨a, b, c, d, e, f, rfl⟩

/-- A field of the prime p lies in block a: its prime, how many limbs, the inverse, 1, the square. -/
structure FldAt (w : World) (a p n v : Nat) : Prop where
  hp : ∀ i, i < 6 → w.cell? ⟨a, i, none⟩ = some (.int .u64 ((digs B64 6 p).getD i 0 : Nat))
  hn : w.cell? ⟨a, 6, none⟩ = some (.int .i64 (n : Nat))
  hv : w.cell? ⟨a, 7, none⟩ = some (.int .u64 (v : Nat))
  h1 : ∀ i, i < 6 → w.cell? ⟨a, 8 + i, none⟩ = some (.int .u64 ((digs B64 6 (B64 ^ n % p)).getD i 0 : Nat))
  h2 : ∀ i, i < 6 → w.cell? ⟨a, 14 + i, none⟩ = some (.int .u64 ((digs B64 6 (B64 ^ (2 * n) % p)).getD i 0 : Nat))
  n6 : n ≤ 6
  pn : p < B64 ^ n
  p1 : 1 < p
  pv : (p * v + 1) % B64 = 0
  v64 : v < B64

theorem FldAt.lt {w : World} {a p n v : Nat} (h : FldAt w a p n v) : a < w.heap.size := World.block_lt_of_cell? w _ h.hn
theorem FldAt.below {w w1 : World} {a p n v : Nat} (h : FldAt w a p n v) (hb : Below w.heap.size w w1) : FldAt w1 a p n v :=
  ⟨fun i hi => cell_below hb (h.hp i hi), cell_below hb h.hn, cell_below hb h.hv, fun i hi => cell_below hb (h.h1 i hi), fun i hi => cell_below hb (h.h2 i hi), h.n6, h.pn, h.p1, h.pv, h.v64⟩

theorem elv_ex (x : Nat) : ∃ d0 d1 d2 d3 d4 d5 : Nat, digs B64 6 x = [d0, d1, d2, d3, d4, d5] ∧ elv x = .agg #[.int .u64 d0, .int .u64 d1, .int .u64 d2, .int .u64 d3, .int .u64 d4, .int .u64 d5] := by
  obtain ⟨d0, d1, d2, d3, d4, d5, h⟩ := six (length_digs B64 6 x)
  exact ⟨d0, d1, d2, d3, d4, d5, h, by unfold elv; rw [h]; rfl⟩

/-- An element comes back out of its block. -/
theorem ret_elem {fn : Func} {R : Ending → World → Prop} {a : Act} {w : World} {p : Tmp} {t ty : TypeId} (h : fn.results = #[.cell p ty]) (g : Nat) (ys : List Nat) (hp : a.tmps.getD p undef = .pointer (some ⟨g, 0, none⟩)) (hrow : Row w g .u64 t ys)
    (d : TypeDesc) (hu : Tryz.prog.underlying ty = some d) (hd' : d.isRow = true) (hi : (Tryz.prog.info? ty).map (·.size) = some ys.length) (hd : a.defers = []) (hR : R (.returned (.agg (cellsOf .u64 ys))) w) : bodyPost Tryz.prog fn R .ret a w := by
  exact ⟨hd, _, results_cell_row h _ _ g t _ (0, 0) d hp hrow hu (by cases d <;> first | rfl | cases hd') (by rw [hi]; simp [cellsOf]), hR⟩

theorem low_end {x z p P bo c : Nat} (e : x + P * bo = z + p) (_hx : x < P) (hz : z < P) (hp : p < P) (hbo : bo ≤ 1) (hc : c ≤ 1) (h2 : x + c * P < 2 * p) : (c < bo → x = (x + c * P) % p) ∧ (bo ≤ c → z = (x + c * P) % p) := by
  obtain rfl | rfl : bo = 0 ∨ bo = 1 := by omega
  · obtain rfl | rfl : c = 0 ∨ c = 1 := by omega
    · refine ⟨fun h => by omega, fun _ => ?_⟩
      rw [show x + 0 * P = z + p by omega, Nat.add_mod_right, Nat.mod_eq_of_lt (by omega)]
    · exfalso; omega
  · obtain rfl | rfl : c = 0 ∨ c = 1 := by omega
    · refine ⟨fun h => ?_, fun h => by omega⟩
      rw [Nat.zero_mul, Nat.add_zero, Nat.mod_eq_of_lt (by omega)]
    · refine ⟨fun h => by omega, fun _ => ?_⟩
      rw [show x + 1 * P = z + p by omega, Nat.add_mod_right, Nat.mod_eq_of_lt (by omega)]

theorem low_step {X Z Q P bo x y d bo' : Nat} (e : X + P * bo = Z + Q) (e3 : x + B64 * bo' = d + y + bo) : X + P * x + P * B64 * bo' = Z + P * d + (Q + P * y) := by
  have t3 := congrArg (P * ·) e3
  simp only [Nat.mul_add, ← Nat.mul_assoc] at *
  omega

theorem digs_take {x n : Nat} (h : x < B64 ^ n) (hn : n ≤ 6) : ofD B64 ((digs B64 6 x).take n) = x := by
  rw [ofD_take_mod (by decide) (Digs.digs (by decide) _ _), ofD_digs, Nat.mod_eq_of_lt (a := x) (Nat.lt_of_lt_of_le h (Nat.pow_le_pow_right (by decide) hn)), Nat.mod_eq_of_lt h]

theorem digs_high {x n i : Nat} (h : x < B64 ^ n) (hi : n ≤ i) : (digs B64 6 x).getD i 0 = 0 := by
  rcases Nat.lt_or_ge i 6 with h6 | h6
  · rw [getD_digs _ _ _ h6, Nat.div_eq_of_lt (Nat.lt_of_lt_of_le h (Nat.pow_le_pow_right (by decide) hi)), Nat.zero_mod]
  · rw [List.getD_eq_getElem?_getD, List.getElem?_eq_none (by rw [length_digs]; exact h6)]; rfl

theorem take_high {zs : List Nat} {n : Nat} (hz : ∀ i, n ≤ i → zs.getD i 0 = 0) : ofD B64 (zs.take n) = ofD B64 zs := by
  rcases Nat.lt_or_ge zs.length n with h | h
  · rw [List.take_of_length_le (by omega)]
  · have e : zs.drop n = List.replicate (zs.length - n) 0 := by
      apply List.ext_getElem
      · simp
      · intro i h1 h2
        have := hz (n + i) (by omega)
        simp only [List.length_drop] at h1
        rw [List.getD_eq_getElem?_getD, List.getElem?_eq_getElem (by omega)] at this
        simpa using this
    rw [ofD_take_drop zs n h, e, ofD_replicate, Nat.mul_zero, Nat.add_zero]

theorem digs_back {zs : List Nat} {z : Nat} (hl : zs.length = 6) (hd : Digs B64 zs) (h : ofD B64 zs = z) : zs = digs B64 6 z := by
  rw [← h, ← hl, digs_ofD (by decide) hd]

set_option maxHeartbeats 2000000 in
theorem lowered_any (a p n v x c : Nat) (w : World) (hF : FldAt w a p n v) (hx : x < B64 ^ n) (hc : c ≤ 1) (h2 : x + c * B64 ^ n < 2 * p) :
    Calls Tryz.prog 361 #[.pointer (some ⟨a, 0, none⟩), elv x, .int .u64 (c : Nat)] w (Ret w (elv ((x + c * B64 ^ n) % p))) := by
  obtain ⟨d0, d1, d2, d3, d4, d5, hdg, he⟩ := elv_ex x
  have HF := Lib.hid hF
  have HG := Lib.hid hdg
  have HX := Lib.hid hx
  have H2 := Lib.hid h2
  have hlt := hF.lt
  have hlt1 : a < w.heap.size + 1 := by omega
  have hlt2 : a < w.heap.size + 1 + 1 := by omega
  have hn := hF.hn
  have hn6 := hF.n6
  rw [he]
  clear hF hdg he hx h2
  go_enter Tryz.func361, Tryz.ntmps361
  go_wp2_with fail
  go_loopw [8, 15] (fun b i wr => ∃ (k bo : Nat) (zs : List Nat), k ≤ n ∧ i = .int .i64 k ∧ b = .int .u64 bo ∧ bo ≤ 1 ∧ Below w.heap.size w wr ∧ Row wr w.heap.size .u64 166 [d0, d1, d2, d3, d4, d5] ∧ Row wr (w.heap.size + 1) .u64 166 [0, 0, 0, 0, 0, 0] ∧
    Row wr (w.heap.size + 1 + 1) .u64 166 zs ∧ zs.length = 6 ∧ Digs B64 zs ∧ ofD B64 ((digs B64 6 x).take k) + B64 ^ k * bo = ofD B64 (zs.take k) + ofD B64 ((digs B64 6 p).take k) ∧ ∀ i, k ≤ i → zs.getD i 0 = (digs B64 6 x).getD i 0) (fun _ i _ => n - (intOf i).toNat)
  case atStart => exact ⟨0, 0, [d0, d1, d2, d3, d4, d5], Nat.zero_le _, rfl, rfl, by omega, (((Below.refl _ _).alloc (Nat.le_refl _) _).alloc (by simp) _).alloc (by simp; omega) _,
      Row.below (w := w.alloc _) (Row.alloc (xs := [d0, d1, d2, d3, d4, d5]) rfl) (((Below.refl _ _).alloc (Nat.le_refl _) _).alloc (by simp) _),
      Row.below (w := (w.alloc _).alloc _) (Row.alloc_at (xs := [0, 0, 0, 0, 0, 0]) rfl (by simp)) ((Below.refl _ _).alloc (Nat.le_refl _) _),
      Row.alloc_at (xs := [d0, d1, d2, d3, d4, d5]) rfl (by simp), rfl, by rw [← HG.out]; exact Digs.digs (by decide) _ _, by simp [ofD], fun _ _ => by rw [HG.out]⟩
  case round =>
    obtain ⟨k, bo, zs, hk, rfl, rfl, hbo, hb, hrx, hr0, hrz, hzl, hdz, hE, hsame⟩ := hrel
    have HZL := Lib.hid hzl
    have HE := Lib.hid hE
    have HSA := Lib.hid hsame
    have HB := Lib.hid hb
    have HRX := Lib.hid hrx
    have HR0 := Lib.hid hr0
    have HRZ := Lib.hid hrz
    have HDZ := Lib.hid hdz
    have HF2 := Lib.hid (HF.out.below hb)
    have hn2 := HF2.out.hn
    clear hzl hE hsame hb hrx hr0 hrz hdz hn
    by_cases hlt : k < n
    · have hcx := HRX.out.cell (i := k) (by show k < 6; omega)
      have hcp := HF2.out.hp k (by omega)
      have hkz : k < zs.length := by rw [HZL.out]; omega
      have hcz := HRZ.out.cell hkz
      have hfz := HRZ.out.frozen k
      rw [← HG.out] at hcx
      have hx : (digs B64 6 x).getD k 0 < 18446744073709551616 := (Digs.digs (B := B64) (by decide) 6 x).getD (by decide) k
      have hp : (digs B64 6 p).getD k 0 < 18446744073709551616 := (Digs.digs (B := B64) (by decide) 6 p).getD (by decide) k
      have HT1 := Lib.hid (ofD_take_getD (B := B64) (digs B64 6 x) k)
      have HT2 := Lib.hid (ofD_take_getD (B := B64) (digs B64 6 p) k)
      have HT3 := fun v => Lib.hid (ofD_take_set (B := B64) (zs := zs) (i := k) (v := v) hkz)
      generalize (digs B64 6 x).getD k 0 = xk at *
      generalize (digs B64 6 p).getD k 0 = pk at *
      obtain ⟨d, bo', hd, hbo', hm, hsub⟩ := sub64_ex xk pk bo hx hp hbo
      have HN : Hid (ofD B64 ((digs B64 6 x).take (k + 1)) + B64 ^ (k + 1) * bo' = ofD B64 ((zs.set k d).take (k + 1)) + ofD B64 ((digs B64 6 p).take (k + 1))) := by
        show _ = _
        rw [HT1.out, HT2.out, (HT3 d).out, Nat.pow_succ]
        exact low_step HE.out hm
      clear hm HT1 HT2 HT3
      go_wp2_with fail
      go_region
      go_wp2_with fail
      go_roundw
      case rel => exact ⟨k + 1, bo', zs.set k d, hlt, by go_num, rfl, hbo', (HB.out.setCell (by show w.heap.size ≤ w.heap.size + 1 + 1; omega) _).drew, (HRX.out.far (by show w.heap.size ≠ w.heap.size + 1 + 1; omega) _).drew, (HR0.out.far (by show w.heap.size + 1 ≠ w.heap.size + 1 + 1; omega) _).drew, (HRZ.out.set k d).drew, by rw [List.length_set]; exact HZL.out, HDZ.out.set _ (by rw [B64_eq]; exact hd), HN.out, fun i hi => by
        rw [List.getD_eq_getElem?_getD, List.getElem?_set_ne (by omega), ← List.getD_eq_getElem?_getD]; exact HSA.out i (by omega)⟩
      case measure => simp [intOf]; omega
    · have hkk : k = n := by omega
      subst hkk
      obtain ⟨z0, z1, z2, z3, z4, z5, rfl⟩ := six HZL.out
      have hzh : ∀ i, k ≤ i → [z0, z1, z2, z3, z4, z5].getD i 0 = 0 := fun i hi => (HSA.out i hi).trans (digs_high HX.out hi)
      have hpl := HF2.out.pn
      have HEND := HE.out
      rw [digs_take HX.out hn6, digs_take hpl hn6] at HEND
      have hzlt := ofD_lt (HDZ.out.take k)
      rw [List.length_take, Nat.min_eq_left (by show k ≤ 6; omega)] at hzlt
      rw [take_high hzh] at HEND hzlt
      obtain ⟨hA, hB⟩ := low_end HEND HX.out hzlt hpl hbo hc H2.out
      have HA := Lib.hid hA
      have HBB := Lib.hid hB
      have hx0 := HRX.out.cell (i := 0) (by show 0 < 6; omega)
      have hx1 := HRX.out.cell (i := 1) (by show 1 < 6; omega)
      have hx2 := HRX.out.cell (i := 2) (by show 2 < 6; omega)
      have hx3 := HRX.out.cell (i := 3) (by show 3 < 6; omega)
      have hx4 := HRX.out.cell (i := 4) (by show 4 < 6; omega)
      have hx5 := HRX.out.cell (i := 5) (by show 5 < 6; omega)
      have hz0 := HRZ.out.cell (i := 0) (by show 0 < 6; omega)
      have hz1 := HRZ.out.cell (i := 1) (by show 1 < 6; omega)
      have hz2 := HRZ.out.cell (i := 2) (by show 2 < 6; omega)
      have hz3 := HRZ.out.cell (i := 3) (by show 3 < 6; omega)
      have hz4 := HRZ.out.cell (i := 4) (by show 4 < 6; omega)
      have hz5 := HRZ.out.cell (i := 5) (by show 5 < 6; omega)
      have hs0 := HR0.out.cell (i := 0) (by show 0 < 6; omega)
      have hs1 := HR0.out.cell (i := 1) (by show 1 < 6; omega)
      have hs2 := HR0.out.cell (i := 2) (by show 2 < 6; omega)
      have hs3 := HR0.out.cell (i := 3) (by show 3 < 6; omega)
      have hs4 := HR0.out.cell (i := 4) (by show 4 < 6; omega)
      have hs5 := HR0.out.cell (i := 5) (by show 5 < 6; omega)
      have hsf := HR0.out.frozen
      clear hzh HEND hzlt hA hB hpl
      by_cases hbc : c < bo
      · have t1 : decide ((c : Int) < (bo : Int)) = true := decide_eq_true (by omega)
        go_wp2_with fail
        refine ret_elem rfl (w.heap.size + 1) [d0, d1, d2, d3, d4, d5] rfl (Row.put6 HR0.out ..) _ Tryz.underlying166 rfl (by kernel_rfl) rfl ⟨?_, Below.put6 HB.out (by omega) ..⟩
        rw [← HA.out hbc]
        unfold elv
        rw [HG.out]
      · have t1 : decide ((c : Int) < (bo : Int)) = false := decide_eq_false (by omega)
        go_wp2_with fail
        refine ret_elem rfl (w.heap.size + 1) [z0, z1, z2, z3, z4, z5] rfl (Row.put6 HR0.out ..) _ Tryz.underlying166 rfl (by kernel_rfl) rfl ⟨?_, Below.put6 HB.out (by omega) ..⟩
        rw [← HBB.out (by omega)]
        unfold elv
        rw [← digs_back rfl HDZ.out rfl]
end Go.Proofs.YtjokcbjahidckaaGreat
/-! mont: Add, Sub, Neg. Conditions: a field lies there, numbers are below its prime. -/
namespace Go.Proofs.YtjokcbjahidckaaGreat
open Go.RowKit

theorem digD (x k : Nat) : (digs B64 6 x).getD k 0 < 18446744073709551616 := (Digs.digs (B := B64) (by decide) 6 x).getD (by decide) k
theorem elv_of {zs : List Nat} (hl : zs.length = 6) (hd : Digs B64 zs) : elv (ofD B64 zs) = .agg (cellsOf .u64 zs) := by unfold elv; rw [← digs_back hl hd rfl]

/-- The six cells of a row. -/
theorem Row.six {w : World} {b : Nat} {t : TypeId} {s0 s1 s2 s3 s4 s5 : Nat} (h : Row w b .u64 t [s0, s1, s2, s3, s4, s5]) :
    w.cell? ⟨b, 0, none⟩ = some (.int .u64 (s0 : Nat)) ∧ w.cell? ⟨b, 1, none⟩ = some (.int .u64 (s1 : Nat)) ∧ w.cell? ⟨b, 2, none⟩ = some (.int .u64 (s2 : Nat)) ∧ w.cell? ⟨b, 3, none⟩ = some (.int .u64 (s3 : Nat)) ∧ w.cell? ⟨b, 4, none⟩ = some (.int .u64 (s4 : Nat)) ∧ w.cell? ⟨b, 5, none⟩ = some (.int .u64 (s5 : Nat)) :=
  ⟨h.cell (i := 0) (by show 0 < 6; omega), h.cell (i := 1) (by show 1 < 6; omega), h.cell (i := 2) (by show 2 < 6; omega), h.cell (i := 3) (by show 3 < 6; omega), h.cell (i := 4) (by show 4 < 6; omega), h.cell (i := 5) (by show 5 < 6; omega)⟩

theorem add_stp {X Y Z P c x y s c' : Nat} (e : Z + P * c = X + Y) (e3 : x + y + c = s + B64 * c') : Z + P * s + P * B64 * c' = X + P * x + (Y + P * y) := by
  have t3 := congrArg (P * ·) e3
  simp only [Nat.mul_add, ← Nat.mul_assoc] at *
  omega

set_option maxHeartbeats 2000000 in
theorem madd_any (a p n v x y : Nat) (w : World) (hF : FldAt w a p n v) (hx : x < p) (hy : y < p) :
    Calls Tryz.prog 310 #[.pointer (some ⟨a, 0, none⟩), elv x, elv y] w (Ret w (elv ((x + y) % p))) := by
  obtain ⟨d0, d1, d2, d3, d4, d5, hdg, he⟩ := elv_ex x
  obtain ⟨e0, e1, e2, e3, e4, e5, heg, he'⟩ := elv_ex y
  have HF := Lib.hid hF
  have HG := Lib.hid hdg
  have HG' := Lib.hid heg
  have HX := Lib.hid hx
  have HY := Lib.hid hy
  have hlt := hF.lt
  have hlt1 : a < w.heap.size + 1 := by omega
  have hlt2 : a < w.heap.size + 1 + 1 := by omega
  have hn := hF.hn
  have hn6 := hF.n6
  rw [he, he']
  clear hF hdg he hx heg he' hy
  go_enter Tryz.func310, Tryz.ntmps310
  go_wp2_with fail
  go_loopw [7, 13] (fun b i wr => ∃ (k c : Nat) (zs : List Nat), k ≤ n ∧ i = .int .i64 k ∧ b = .int .u64 c ∧ c ≤ 1 ∧ Below w.heap.size w wr ∧ Row wr w.heap.size .u64 166 zs ∧ Row wr (w.heap.size + 1) .u64 166 [e0, e1, e2, e3, e4, e5] ∧
    Row wr (w.heap.size + 1 + 1) .u64 166 [0, 0, 0, 0, 0, 0] ∧ zs.length = 6 ∧ Digs B64 zs ∧ ofD B64 (zs.take k) + B64 ^ k * c = ofD B64 ((digs B64 6 x).take k) + ofD B64 ((digs B64 6 y).take k) ∧ ∀ i, k ≤ i → zs.getD i 0 = (digs B64 6 x).getD i 0) (fun _ i _ => n - (intOf i).toNat)
  case atStart => exact ⟨0, 0, [d0, d1, d2, d3, d4, d5], Nat.zero_le _, rfl, rfl, by omega, (((Below.refl _ _).alloc (Nat.le_refl _) _).alloc (by simp) _).alloc (by simp; omega) _,
      Row.below (w := w.alloc _) (Row.alloc (xs := [d0, d1, d2, d3, d4, d5]) rfl) (((Below.refl _ _).alloc (Nat.le_refl _) _).alloc (by simp) _),
      Row.below (w := (w.alloc _).alloc _) (Row.alloc_at (xs := [e0, e1, e2, e3, e4, e5]) rfl (by simp)) ((Below.refl _ _).alloc (Nat.le_refl _) _),
      Row.alloc_at (xs := [0, 0, 0, 0, 0, 0]) rfl (by simp), rfl, by rw [← HG.out]; exact Digs.digs (by decide) _ _, by simp [ofD], fun _ _ => by rw [HG.out]⟩
  case round =>
    obtain ⟨k, c, zs, hk, rfl, rfl, hc, hb, hrz, hry, hr0, hzl, hdz, hE, hsame⟩ := hrel
    have HZL := Lib.hid hzl
    have HE := Lib.hid hE
    have HSA := Lib.hid hsame
    have HB := Lib.hid hb
    have HRY := Lib.hid hry
    have HR0 := Lib.hid hr0
    have HRZ := Lib.hid hrz
    have HDZ := Lib.hid hdz
    have HF2 := Lib.hid (HF.out.below hb)
    have hn2 := HF2.out.hn
    clear hzl hE hsame hb hry hr0 hrz hdz hn
    by_cases hlt : k < n
    · have hcy := HRY.out.cell (i := k) (by show k < 6; omega)
      have hkz : k < zs.length := by rw [HZL.out]; omega
      have hcz := HRZ.out.cell hkz
      have hfz := HRZ.out.frozen k
      rw [← HG'.out] at hcy
      rw [HSA.out k (Nat.le_refl _)] at hcz
      have hx := digD x k
      have hy := digD y k
      have HT1 := Lib.hid (ofD_take_getD (B := B64) (digs B64 6 x) k)
      have HT2 := Lib.hid (ofD_take_getD (B := B64) (digs B64 6 y) k)
      have HT3 := fun v => Lib.hid (ofD_take_set (B := B64) (zs := zs) (i := k) (v := v) hkz)
      generalize (digs B64 6 x).getD k 0 = xk at *
      generalize (digs B64 6 y).getD k 0 = yk at *
      obtain ⟨d, c', hd, hc', hm, hadd⟩ := add64_ex xk yk c hx hy hc
      have HN : Hid (ofD B64 ((zs.set k d).take (k + 1)) + B64 ^ (k + 1) * c' = ofD B64 ((digs B64 6 x).take (k + 1)) + ofD B64 ((digs B64 6 y).take (k + 1))) := by
        show _ = _
        rw [HT1.out, HT2.out, (HT3 d).out, Nat.pow_succ]
        exact add_stp HE.out hm
      clear hm HT1 HT2 HT3
      go_wp2_with fail
      go_region
      go_wp2_with fail
      go_roundw
      case rel => exact ⟨k + 1, c', zs.set k d, hlt, by go_num, rfl, hc', (HB.out.setCell (by show w.heap.size ≤ w.heap.size; omega) _).drew, (HRZ.out.set k d).drew, (HRY.out.far (by show w.heap.size + 1 ≠ w.heap.size; omega) _).drew, (HR0.out.far (by show w.heap.size + 1 + 1 ≠ w.heap.size; omega) _).drew, by rw [List.length_set]; exact HZL.out, HDZ.out.set _ (by rw [B64_eq]; exact hd), HN.out, fun i hi => by
        rw [List.getD_eq_getElem?_getD, List.getElem?_set_ne (by omega), ← List.getD_eq_getElem?_getD]; exact HSA.out i (by omega)⟩
      case measure => simp [intOf]; omega
    · have hkk : k = n := by omega
      subst hkk
      obtain ⟨z0, z1, z2, z3, z4, z5, rfl⟩ := six HZL.out
      have hpl := HF2.out.pn
      have hxl := Nat.lt_trans HX.out hpl
      have hyl := Nat.lt_trans HY.out hpl
      have hzh : ∀ i, k ≤ i → [z0, z1, z2, z3, z4, z5].getD i 0 = 0 := fun i hi => (HSA.out i hi).trans (digs_high hxl hi)
      have HEND := HE.out
      rw [digs_take hxl hn6, digs_take hyl hn6] at HEND
      have hzlt := ofD_lt (HDZ.out.take k)
      rw [List.length_take, Nat.min_eq_left (by show k ≤ 6; omega)] at hzlt
      rw [take_high hzh] at HEND hzlt
      have hlow := fun w1 (h : FldAt w1 a p k v) => lowered_any a p k v _ c w1 h hzlt hc (by rw [Nat.mul_comm c, HEND]; have := HX.out; have := HY.out; omega)
      rw [Nat.mul_comm c, HEND, elv_of rfl HDZ.out] at hlow
      obtain ⟨r0, r1, r2, r3, r4, r5, hrg, hre⟩ := elv_ex ((x + y) % p)
      have HRE := Lib.hid hre
      rw [hre] at hlow
      have HLOW := Lib.hid (hlow _ HF2.out)
      obtain ⟨hz0, hz1, hz2, hz3, hz4, hz5⟩ := HRZ.out.six
      clear hzh HEND hzlt hlow hre hrg hpl hxl hyl
      go_wp2_with fail
      refine HLOW.out.mono ?_
      rintro e w' ⟨rfl, hb⟩
      have HR1 := Lib.hid (HR0.out.below hb)
      have HB1 := Lib.hid (HB.out.trans (hb.mono HB.out.size))
      obtain ⟨hs0, hs1, hs2, hs3, hs4, hs5⟩ := HR1.out.six
      have hsf := HR1.out.frozen
      clear hb
      go_wp2_with fail
      exact ret_elem rfl (w.heap.size + 1 + 1) [r0, r1, r2, r3, r4, r5] rfl (Row.put6 HR1.out ..) _ Tryz.underlying166 rfl (by kernel_rfl) rfl ⟨by rw [HRE.out]; rfl, Below.put6 HB1.out (by omega) ..⟩
theorem sub_stp {X Y Z P b x y s b' : Nat} (e : X + P * b = Z + Y) (e3 : x + B64 * b' = s + y + b) : X + P * x + P * B64 * b' = Z + P * s + (Y + P * y) := by
  have t3 := congrArg (P * ·) e3
  simp only [Nat.mul_add, ← Nat.mul_assoc] at *
  omega

theorem sub_end0 {x y z p P : Nat} (e : x + P * 0 = z + y) (hx : x < p) : z = (x + (p - y)) % p := by
  rw [show x + (p - y) = z + p + (y - y) - (y - p) by omega]
  rw [Nat.mul_zero, Nat.add_zero] at e
  rw [Nat.sub_self, Nat.add_zero, show y - p = 0 by omega, Nat.sub_zero, Nat.add_mod_right, Nat.mod_eq_of_lt (by omega)]

theorem sub_end1 {x y z p P z' c : Nat} (e : x + P * 1 = z + y) (hx : x < p) (hy : y < p) (hp : p < P) (e2 : z' + P * c = z + p) (hc : c ≤ 1) (hz' : z' < P) (hz : z < P) : z' = (x + (p - y)) % p := by
  rw [Nat.mul_one] at e
  obtain rfl | rfl : c = 0 ∨ c = 1 := by omega
  · omega
  · rw [Nat.mul_one] at e2
    rw [Nat.mod_eq_of_lt (by omega)]
    omega

set_option maxHeartbeats 4000000 in
theorem msub_any (a p n v x y : Nat) (w : World) (hF : FldAt w a p n v) (hx : x < p) (hy : y < p) :
    Calls Tryz.prog 313 #[.pointer (some ⟨a, 0, none⟩), elv x, elv y] w (Ret w (elv ((x + (p - y)) % p))) := by
  obtain ⟨d0, d1, d2, d3, d4, d5, hdg, he⟩ := elv_ex x
  obtain ⟨e0, e1, e2, e3, e4, e5, heg, he'⟩ := elv_ex y
  have HF := Lib.hid hF
  have HG := Lib.hid hdg
  have HG' := Lib.hid heg
  have HX := Lib.hid hx
  have HY := Lib.hid hy
  have hlt := hF.lt
  have hlt1 : a < w.heap.size + 1 := by omega
  have hlt2 : a < w.heap.size + 1 + 1 := by omega
  have hn := hF.hn
  have hn6 := hF.n6
  rw [he, he']
  clear hF hdg he hx heg he' hy
  go_enter Tryz.func313, Tryz.ntmps313
  go_wp2_with fail
  go_loopw [7, 15] (fun b i wr => ∃ (k bo : Nat) (zs : List Nat), k ≤ n ∧ i = .int .i64 k ∧ b = .int .u64 bo ∧ bo ≤ 1 ∧ Below w.heap.size w wr ∧ Row wr w.heap.size .u64 166 zs ∧ Row wr (w.heap.size + 1) .u64 166 [e0, e1, e2, e3, e4, e5] ∧
    Row wr (w.heap.size + 1 + 1) .u64 166 [0, 0, 0, 0, 0, 0] ∧ zs.length = 6 ∧ Digs B64 zs ∧ ofD B64 ((digs B64 6 x).take k) + B64 ^ k * bo = ofD B64 (zs.take k) + ofD B64 ((digs B64 6 y).take k) ∧ ∀ i, k ≤ i → zs.getD i 0 = (digs B64 6 x).getD i 0) (fun _ i _ => n - (intOf i).toNat)
  case atStart => exact ⟨0, 0, [d0, d1, d2, d3, d4, d5], Nat.zero_le _, rfl, rfl, by omega, (((Below.refl _ _).alloc (Nat.le_refl _) _).alloc (by simp) _).alloc (by simp; omega) _,
      Row.below (w := w.alloc _) (Row.alloc (xs := [d0, d1, d2, d3, d4, d5]) rfl) (((Below.refl _ _).alloc (Nat.le_refl _) _).alloc (by simp) _),
      Row.below (w := (w.alloc _).alloc _) (Row.alloc_at (xs := [e0, e1, e2, e3, e4, e5]) rfl (by simp)) ((Below.refl _ _).alloc (Nat.le_refl _) _),
      Row.alloc_at (xs := [0, 0, 0, 0, 0, 0]) rfl (by simp), rfl, by rw [← HG.out]; exact Digs.digs (by decide) _ _, by simp [ofD], fun _ _ => by rw [HG.out]⟩
  case round =>
    obtain ⟨k, bo, zs, hk, rfl, rfl, hbo, hb, hrz, hry, hr0, hzl, hdz, hE, hsame⟩ := hrel
    have HZL := Lib.hid hzl
    have HE := Lib.hid hE
    have HSA := Lib.hid hsame
    have HB := Lib.hid hb
    have HRY := Lib.hid hry
    have HR0 := Lib.hid hr0
    have HRZ := Lib.hid hrz
    have HDZ := Lib.hid hdz
    have HF2 := Lib.hid (HF.out.below hb)
    have hn2 := HF2.out.hn
    clear hzl hE hsame hb hry hr0 hrz hdz hn
    by_cases hlt : k < n
    · have hcy := HRY.out.cell (i := k) (by show k < 6; omega)
      have hkz : k < zs.length := by rw [HZL.out]; omega
      have hcz := HRZ.out.cell hkz
      have hfz := HRZ.out.frozen k
      rw [← HG'.out] at hcy
      rw [HSA.out k (Nat.le_refl _)] at hcz
      have hx := digD x k
      have hy := digD y k
      have HT1 := Lib.hid (ofD_take_getD (B := B64) (digs B64 6 x) k)
      have HT2 := Lib.hid (ofD_take_getD (B := B64) (digs B64 6 y) k)
      have HT3 := fun v => Lib.hid (ofD_take_set (B := B64) (zs := zs) (i := k) (v := v) hkz)
      generalize (digs B64 6 x).getD k 0 = xk at *
      generalize (digs B64 6 y).getD k 0 = yk at *
      obtain ⟨d, b', hd, hb', hm, hsub⟩ := sub64_ex xk yk bo hx hy hbo
      have HN : Hid (ofD B64 ((digs B64 6 x).take (k + 1)) + B64 ^ (k + 1) * b' = ofD B64 ((zs.set k d).take (k + 1)) + ofD B64 ((digs B64 6 y).take (k + 1))) := by
        show _ = _
        rw [HT1.out, HT2.out, (HT3 d).out, Nat.pow_succ]
        exact sub_stp HE.out hm
      clear hm HT1 HT2 HT3
      go_wp2_with fail
      go_region
      go_wp2_with fail
      go_roundw
      case rel => exact ⟨k + 1, b', zs.set k d, hlt, by go_num, rfl, hb', (HB.out.setCell (by show w.heap.size ≤ w.heap.size; omega) _).drew, (HRZ.out.set k d).drew, (HRY.out.far (by show w.heap.size + 1 ≠ w.heap.size; omega) _).drew, (HR0.out.far (by show w.heap.size + 1 + 1 ≠ w.heap.size; omega) _).drew, by rw [List.length_set]; exact HZL.out, HDZ.out.set _ (by rw [B64_eq]; exact hd), HN.out, fun i hi => by
        rw [List.getD_eq_getElem?_getD, List.getElem?_set_ne (by omega), ← List.getD_eq_getElem?_getD]; exact HSA.out i (by omega)⟩
      case measure => simp [intOf]; omega
    · have hkk : k = n := by omega
      subst hkk
      have hpl := HF2.out.pn
      have hxl := Nat.lt_trans HX.out hpl
      have hyl := Nat.lt_trans HY.out hpl
      have hzh : ∀ i, k ≤ i → zs.getD i 0 = 0 := fun i hi => (HSA.out i hi).trans (digs_high hxl hi)
      have HEND := HE.out
      rw [digs_take hxl hn6, digs_take hyl hn6] at HEND
      have hzlt := ofD_lt (HDZ.out.take k)
      rw [List.length_take, HZL.out, Nat.min_eq_left hn6] at hzlt
      rw [take_high hzh] at HEND hzlt
      have HH := Lib.hid HEND
      have HZT := Lib.hid hzlt
      have HZH := Lib.hid hzh
      clear HEND hzlt hzh hpl hxl hyl
      obtain rfl | rfl : bo = 0 ∨ bo = 1 := by omega
      · obtain ⟨z0, z1, z2, z3, z4, z5, rfl⟩ := six HZL.out
        obtain ⟨hz0, hz1, hz2, hz3, hz4, hz5⟩ := HRZ.out.six
        obtain ⟨hs0, hs1, hs2, hs3, hs4, hs5⟩ := HR0.out.six
        have hsf := HR0.out.frozen
        go_wp2_with fail
        refine ret_elem rfl (w.heap.size + 1 + 1) [z0, z1, z2, z3, z4, z5] rfl (Row.put6 HR0.out ..) _ Tryz.underlying166 rfl (by kernel_rfl) rfl ⟨?_, Below.put6 HB.out (by omega) ..⟩
        rw [← sub_end0 HH.out HX.out, elv_of rfl HDZ.out]
      · obtain ⟨wo, rfl⟩ : ∃ wo : World, wo = wr := ⟨_, rfl⟩
        go_wp2_with fail
        go_loopw [9, 38] (fun b i wr => ∃ (j c : Nat) (us : List Nat), j ≤ k ∧ i = .int .i64 j ∧ b = .int .u64 c ∧ c ≤ 1 ∧ Below w.heap.size w wr ∧ Row wr w.heap.size .u64 166 us ∧
          Row wr (w.heap.size + 1 + 1) .u64 166 [0, 0, 0, 0, 0, 0] ∧ us.length = 6 ∧ Digs B64 us ∧ ofD B64 (us.take j) + B64 ^ j * c = ofD B64 (zs.take j) + ofD B64 ((digs B64 6 p).take j) ∧ ∀ i, j ≤ i → us.getD i 0 = zs.getD i 0) (fun _ i _ => k - (intOf i).toNat)
        case atStart => exact ⟨0, 0, zs, Nat.zero_le _, rfl, rfl, by omega, HB.out, HRZ.out, HR0.out, HZL.out, HDZ.out, by simp [ofD], fun _ _ => rfl⟩
        case round =>
          obtain ⟨j, c, us, hj, rfl, rfl, hc, hb, hru, hr0, hul, hdu, hE3, hsame⟩ := hrel
          have HUL := Lib.hid hul
          have HE3 := Lib.hid hE3
          have HSA3 := Lib.hid hsame
          have HB3 := Lib.hid hb
          have HR03 := Lib.hid hr0
          have HRU := Lib.hid hru
          have HDU := Lib.hid hdu
          have HF3 := Lib.hid (HF.out.below hb)
          have hn3 := HF3.out.hn
          clear hul hE3 hsame hb hr0 hru hdu
          by_cases hlt : j < k
          · have hcp := HF3.out.hp j (by omega)
            have hju : j < us.length := by rw [HUL.out]; omega
            have hcu := HRU.out.cell hju
            have hfu := HRU.out.frozen j
            have hx := HDU.out.getD (by decide) j
            have hp := digD p j
            rw [B64_eq] at hx
            have HT1 := Lib.hid (ofD_take_getD (B := B64) zs j)
            rw [← HSA3.out j (Nat.le_refl _)] at HT1
            have HT2 := Lib.hid (ofD_take_getD (B := B64) (digs B64 6 p) j)
            have HT3 := fun v => Lib.hid (ofD_take_set (B := B64) (zs := us) (i := j) (v := v) hju)
            generalize us.getD j 0 = xk at *
            generalize (digs B64 6 p).getD j 0 = yk at *
            obtain ⟨d, c', hd, hc', hm, hadd⟩ := add64_ex xk yk c hx hp hc
            have HN : Hid (ofD B64 ((us.set j d).take (j + 1)) + B64 ^ (j + 1) * c' = ofD B64 (zs.take (j + 1)) + ofD B64 ((digs B64 6 p).take (j + 1))) := by
              show _ = _
              rw [HT1.out, HT2.out, (HT3 d).out, Nat.pow_succ]
              exact add_stp HE3.out hm
            clear hm HT1 HT2 HT3
            go_wp2_with fail
            go_region
            go_wp2_with fail
            go_roundw
            case rel => exact ⟨j + 1, c', us.set j d, hlt, by go_num, rfl, hc', (HB3.out.setCell (by show w.heap.size ≤ w.heap.size; omega) _).drew, (HRU.out.set j d).drew, (HR03.out.far (by show w.heap.size + 1 + 1 ≠ w.heap.size; omega) _).drew, by rw [List.length_set]; exact HUL.out, HDU.out.set _ (by rw [B64_eq]; exact hd), HN.out, fun i hi => by
              rw [List.getD_eq_getElem?_getD, List.getElem?_set_ne (by omega), ← List.getD_eq_getElem?_getD]; exact HSA3.out i (by omega)⟩
            case measure => simp [intOf]; omega
          · have hkk : j = k := by omega
            subst hkk
            have huh : ∀ i, j ≤ i → us.getD i 0 = 0 := fun i hi => (HSA3.out i hi).trans (HZH.out i hi)
            have HEND := HE3.out
            rw [digs_take HF3.out.pn hn6, take_high HZH.out, take_high huh] at HEND
            have hult := ofD_lt (HDU.out.take j)
            rw [List.length_take, HUL.out, Nat.min_eq_left hn6, take_high huh] at hult
            have HRES := Lib.hid (sub_end1 HH.out HX.out HY.out HF3.out.pn HEND hc hult HZT.out)
            clear HEND hult huh
            obtain ⟨z0, z1, z2, z3, z4, z5, rfl⟩ := six HUL.out
            obtain ⟨hz0, hz1, hz2, hz3, hz4, hz5⟩ := HRU.out.six
            obtain ⟨hs0, hs1, hs2, hs3, hs4, hs5⟩ := HR03.out.six
            have hsf := HR03.out.frozen
            go_wp2_with fail
            refine ret_elem rfl (w.heap.size + 1 + 1) [z0, z1, z2, z3, z4, z5] rfl (Row.put6 HR03.out ..) _ Tryz.underlying166 rfl (by kernel_rfl) rfl ⟨?_, Below.put6 HB3.out (by omega) ..⟩
            rw [← HRES.out, elv_of rfl HDU.out]

theorem elv_zero : elv 0 = .agg #[.int .u64 0, .int .u64 0, .int .u64 0, .int .u64 0, .int .u64 0, .int .u64 0] := by rfl

set_option maxHeartbeats 2000000 in
theorem mneg_any (a p n v y : Nat) (w : World) (hF : FldAt w a p n v) (hy : y < p) :
    Calls Tryz.prog 316 #[.pointer (some ⟨a, 0, none⟩), elv y] w (Ret w (elv ((0 + (p - y)) % p))) := by
  have HS := fun w1 (h : FldAt w1 a p n v) => msub_any a p n v 0 y w1 h (by omega) hy
  obtain ⟨d0, d1, d2, d3, d4, d5, hdg, he⟩ := elv_ex y
  obtain ⟨r0, r1, r2, r3, r4, r5, hrg, hre⟩ := elv_ex ((0 + (p - y)) % p)
  have HRE := Lib.hid hre
  rw [he, hre, elv_zero] at HS
  rw [he]
  clear hdg he hrg hre hy
  have HF := Lib.hid hF
  clear hF
  go_enter Tryz.func316, Tryz.ntmps316
  go_wp2_with fail
  refine (HS _ (HF.out.below (((Below.refl _ _).alloc (Nat.le_refl _) _).alloc (by simp) _))).mono ?_
  rintro e w' ⟨rfl, hb⟩
  have HR := Lib.hid (Row.below (Row.alloc_at (w := w.alloc _) (n := w.heap.size + 1) (k := .u64) (t := 166) (xs := [0, 0, 0, 0, 0, 0]) rfl (by simp)) hb)
  have HB := Lib.hid ((((Below.refl w.heap.size w).alloc (Nat.le_refl _) _).alloc (by simp) _).trans (hb.mono (by simp; omega)))
  obtain ⟨hs0, hs1, hs2, hs3, hs4, hs5⟩ := HR.out.six
  have hsf := HR.out.frozen
  clear hb
  go_wp2_with fail
  exact ret_elem rfl (w.heap.size + 1) [r0, r1, r2, r3, r4, r5] rfl (Row.put6 HR.out ..) _ Tryz.underlying166 rfl (by kernel_rfl) rfl ⟨by rw [HRE.out]; rfl, Below.put6 HB.out (by omega) ..⟩

end Go.Proofs.YtjokcbjahidckaaGreat
/-! mont.Mul: Montgomery's product. Conditions: a field lies there, numbers are below its prime. -/
namespace Go.Proofs.YtjokcbjahidckaaGreat
open Go.RowKit

theorem Rd.ofF {w : World} {a p n v : Nat} (h : FldAt w a p n v) : Rd w .u64 (some ⟨a, 0, none⟩) ((digs B64 6 p).take n) := by
  refine Rd.take ⟨by rw [length_digs]; omega, .inr ⟨a, 0, rfl, fun j hj => ?_⟩⟩ n
  rw [length_digs] at hj
  rw [Nat.zero_add]
  exact h.hp j hj

theorem FldAt.n1 {w : World} {a p n v : Nat} (h : FldAt w a p n v) : 1 ≤ n := by
  have h1 := h.pn
  have h2 := h.p1
  rcases Nat.eq_zero_or_pos n with e | e
  · rw [e, Nat.pow_zero] at h1; omega
  · exact e

theorem Rd.of_eq {w : World} {k : IntKind} {A : Option Addr} {xs ys : List Nat} (h : Rd w k A xs) (e : ys = xs) : Rd w k A ys := e ▸ h

theorem cut_row {zs : List Nat} {k l : Nat} (h : k + l ≤ zs.length) : ∃ pre seg post : List Nat, zs = pre ++ seg ++ post ∧ pre.length = k ∧ seg.length = l :=
  ⟨zs.take k, (zs.drop k).take l, zs.drop (k + l), cut3, by rw [List.length_take]; omega, by rw [List.length_take, List.length_drop]; omega⟩

theorem digs_mid {B : Nat} {pre seg post : List Nat} (h : Digs B (pre ++ seg ++ post)) : Digs B seg := fun d hd => h d (by simp [hd])
theorem digs_pre {B : Nat} {pre seg post : List Nat} (h : Digs B (pre ++ seg ++ post)) : Digs B pre := fun d hd => h d (by simp [hd])
theorem digs_post {B : Nat} {pre seg post : List Nat} (h : Digs B (pre ++ seg ++ post)) : Digs B post := fun d hd => h d (by simp [hd])

theorem drop_val {pre seg post : List Nat} {k n : Nat} (h1 : pre.length = k) (h2 : seg.length = n + 1) (h3 : seg.getD n 0 = 0) (h4 : ∀ i, post.getD i 0 = 0) : ofD B64 ((pre ++ seg ++ post).drop k) = ofD B64 (seg.take n) := by
  rw [List.append_assoc, List.drop_left' h1, ← take_high (zs := seg ++ post) (n := n), List.take_append_of_le_length (by omega)]
  intro i hi
  rcases Nat.lt_or_ge i (n + 1) with h | h
  · rw [List.getD_eq_getElem?_getD, List.getElem?_append_left (by omega), ← List.getD_eq_getElem?_getD, show i = n by omega, h3]
  · rw [List.getD_eq_getElem?_getD, List.getElem?_append_right (by omega), ← List.getD_eq_getElem?_getD, h4]

theorem drop_val1 {pre seg post : List Nat} {k : Nat} (h1 : pre.length = k) (h2 : 1 ≤ seg.length) (h4 : ∀ i, post.getD i 0 = 0) : ofD B64 ((pre ++ seg ++ post).drop (k + 1)) = ofD B64 (seg.drop 1) := by
  have hp : ofD B64 post = 0 := by
    have := take_high (zs := post) (n := 0) (fun i _ => h4 i)
    rw [← this]; rfl
  rw [List.append_assoc, ← h1, List.drop_append, List.drop_eq_nil_of_le (by omega), List.nil_append, Nat.add_sub_cancel_left, List.drop_append_of_le_length h2, ofD_append, hp, Nat.mul_zero, Nat.add_zero]

theorem sl13 (b k h : Nat) (e : Int) (he : e = (h : Int)) (hk : k ≤ h) (hh : h ≤ 13) (hk13 : k < 13) (W : World) : (Instr.sliceAt 434 (.pointer (some ⟨b, 0, none⟩)) (some (.int .i64 (k : Nat))) (some (.int .i64 e)) none).run Tryz.prog W = .ok (.slice (some ⟨b, k, none⟩) (h - k) (13 - k)) W := by
  subst he
  have hal : Tryz.prog.arrayLen 434 = 13 := by kernel_rfl
  rw [run_sliceAt_array_lh W 434 ⟨b, 0, none⟩ (by kernel_rfl) .i64 .i64 (k : Int) (h : Int) (by omega) (by omega) (by rw [hal]; omega)]
  rw [hal, show Tryz.prog.elem 434 = 22 from by kernel_rfl, Tryz.sizeOf22]
  simp only [Result.andThen_ok, slicedAt, Int.toNat_natCast, Nat.mul_one]
  rw [if_neg (by omega), Addr.add_mid, Nat.zero_add]

theorem sl6 (b o n : Nat) (hn : n ≤ 6) (W : World) : (Instr.sliceAt 166 (.pointer (some ⟨b, o, none⟩)) none (some (.int .i64 (n : Nat))) none).run Tryz.prog W = .ok (.slice (some ⟨b, o, none⟩) n 6) W := by
  have hal : Tryz.prog.arrayLen 166 = 6 := by kernel_rfl
  rw [run_sliceAt_array_h W 166 ⟨b, o, none⟩ (by kernel_rfl) .i64 (n : Int) (by omega) (by rw [hal]; omega)]
  rw [hal, show Tryz.prog.elem 166 = 22 from by kernel_rfl, Tryz.sizeOf22]
  simp only [Result.andThen_ok, slicedAt, Int.toNat_natCast, Nat.mul_one, Nat.sub_zero]
  rw [if_neg (by omega), Addr.add_mid, Nat.add_zero]

theorem sl6a (b o : Nat) (W : World) : (Instr.sliceAt 166 (.pointer (some ⟨b, o, none⟩)) none none none).run Tryz.prog W = .ok (.slice (some ⟨b, o, none⟩) 6 6) W := by
  have hal : Tryz.prog.arrayLen 166 = 6 := by kernel_rfl
  rw [run_sliceAt_array_all W 166 ⟨b, o, none⟩ (by kernel_rfl)]
  rw [hal, show Tryz.prog.elem 166 = 22 from by kernel_rfl, Tryz.sizeOf22]
  simp only [Result.andThen_ok, slicedAt, Nat.zero_mul, Nat.sub_zero]
  rw [if_neg (by omega), Addr.add_mid, Nat.add_zero]

theorem mont_last {T P x y M p : Nat} (h : T * P = x * y + M * p) : T % p * P + T / p * P * p = x * y + M * p := by
  rw [← h, Nat.mul_right_comm, ← Nat.add_mul, Nat.mul_comm (T / p), Nat.mod_add_div]

theorem copy_row64 {w : World} {ops : Array Oper} {rest : List Oper} {o : Oper} {a : Act} {Q : Exit → Act → World → Prop} (hgd : o.guard = none) (d s : Operand)
    (ho : o.op = .call { callee := .builtin .copy, args := #[d, s], argTypes := #[86, 86] }) (g off dLen dCap : Nat) (hd : a.eval d = .slice (some ⟨g, off, none⟩) dLen dCap) (A : Option Addr) (sLen sCap : Nat) (hs : a.eval s = .slice A sLen sCap)
    (zs : List Nat) (t : TypeId) (hrow : Row w g .u64 t zs) (xs : List Nat) (hxl : xs.length = Nat.min sLen dLen) (hr : Rd w .u64 A xs) (hfit : off + xs.length ≤ zs.length) (B : Nat) (w0 : World) (hb : Below B w0 w) (hBg : B ≤ g)
    (h : ∀ w', Row w' g .u64 t (zs.take off ++ xs ++ zs.drop (off + xs.length)) → Below B w0 w' → wpList Tryz.prog ops Q rest (a.put o.dst (goInt xs.length)) w') : wpList Tryz.prog ops Q (o :: rest) a w := by
  refine wpList_copy_splice hgd d s 86 86 ho 22 Tryz.underlying86 (by kernel_rfl) (some ⟨g, off, none⟩) A dLen dCap sLen sCap hd hs g off (zs.map fun n : Nat => Value.int .u64 (n : Int)) t hrow (xs.map fun n : Nat => Value.int .u64 (n : Int)) (by simpa using hxl) ?_ (by simpa using hfit) ?_ B w0 hb hBg ?_
  · intro h0
    have h0' : 0 < xs.length := by simpa using h0
    rcases hr.2 with e | ⟨b, off', e, hx⟩
    · rw [e] at h0'; simp at h0'
    · refine ⟨rfl, _, e, fun j v hj => ?_⟩
      have hj2 : j < xs.length := by
        rcases Nat.lt_or_ge j xs.length with h | h
        · exact h
        · rw [List.getElem?_eq_none (by simpa using h)] at hj; cases hj
      rw [Addr.add_mid, hx j hj2, ← hj]
      simp [List.getD_eq_getElem?_getD, hj2]
  · intro v hv
    obtain ⟨n, _, rfl⟩ := List.mem_map.1 hv
    rfl
  · intro w1 hg1 hb1
    have := h w1 (by
      have := hg1.out
      unfold Row
      rw [this]
      simp [cellsOf, splice, List.map_drop, List.map_take]) hb1
    simpa using this

theorem low_digit {xs : List Nat} {n : Nat} (h : Digs B64 xs) (hn : 1 ≤ n) (hl : 1 ≤ xs.length) : ofD B64 (xs.take n) % B64 = xs.getD 0 0 := by
  match xs, hl, n, hn with
  | d :: t, _, m + 1, _ =>
    rw [List.take_succ_cons, ofD_cons, Nat.add_mul_mod_self_left, Nat.mod_eq_of_lt h.head]
    rfl

theorem mont_sum {P yk x ov S0 S1 c1 zn s c m p S3 c2 s' d V : Nat} (h1 : S1 + P * c1 = S0 + yk * x) (h2 : zn + c1 + ov = s + B64 * c) (hz : zn = 0) (h3 : S3 + P * c2 = S1 + m * p) (h4 : s + c2 = s' + B64 * d) (hV : V = S3 + P * s') :
    V + P * B64 * (c + d) = S0 + ov * P + yk * x + m * p := by
  subst hz
  have t2 := congrArg (P * ·) h2
  have t4 := congrArg (P * ·) h4
  simp only [Nat.mul_add, ← Nat.mul_assoc, Nat.mul_zero] at *
  rw [Nat.mul_comm ov P]
  omega

theorem mont_zero {S1 z0 v m p S3 c2 n : Nat} (hn : 1 ≤ n) (hS : S1 % B64 = z0) (hm : m = z0 * v % B64) (hpv : (p * v + 1) % B64 = 0) (h3 : S3 + B64 ^ n * c2 = S1 + m * p) : S3 % B64 = 0 := by
  obtain ⟨k, rfl⟩ : ∃ k, n = k + 1 := ⟨n - 1, by omega⟩
  have e1 : (S1 + m * p) % B64 = 0 := by
    have e : (S1 + m * p) % B64 = (z0 * (p * v + 1)) % B64 := by
      have e2 : (m * p) % B64 = (z0 * v * p) % B64 := by rw [hm, Nat.mod_mul_mod]
      rw [Nat.add_mod, hS, e2, Nat.add_mod_mod, Nat.mul_add, Nat.mul_one, Nat.mul_assoc, Nat.mul_comm v p, Nat.add_comm]
    rw [e, Nat.mul_mod, hpv, Nat.mul_zero, Nat.zero_mod]
  rw [← h3, Nat.pow_succ, Nat.mul_comm (B64 ^ k), Nat.mul_assoc, Nat.add_mul_mod_self_left] at e1
  exact e1

theorem mont_shift {sg : List Nat} {S3 s' n : Nat} (hl : sg.length = n + 1) (hd : Digs B64 sg) (hn : 1 ≤ n) (h : ofD B64 sg = S3 + B64 ^ n * s') (hz : S3 % B64 = 0) : ofD B64 sg = B64 * ofD B64 (sg.drop 1) := by
  obtain ⟨k, rfl⟩ : ∃ k, n = k + 1 := ⟨n - 1, by omega⟩
  match sg, hl with
  | d :: t, _ =>
    rw [List.drop_one, List.tail_cons, ofD_cons]
    have h1 : (d + B64 * ofD B64 t) % B64 = 0 := by
      rw [← ofD_cons, h, Nat.pow_succ, Nat.mul_comm (B64 ^ k), Nat.mul_assoc, Nat.add_mul_mod_self_left]
      exact hz
    rw [Nat.add_mul_mod_self_left, Nat.mod_eq_of_lt hd.head] at h1
    rw [h1, Nat.zero_add]

theorem mont_next {T' T yk x m p : Nat} (e : B64 * T' = T + yk * x + m * p) (hT : T < 2 * p) (hyk : yk < B64) (hm : m < B64) (hx : x < p) : T' < 2 * p := by
  have h1 : yk * x ≤ (B64 - 1) * p := Nat.mul_le_mul (by omega) (by omega)
  have h2 : m * p ≤ (B64 - 1) * p := Nat.mul_le_mul (by omega) (Nat.le_refl _)
  have h3 : (B64 - 1) * p + p = B64 * p := by
    have : B64 = (B64 - 1) + 1 := by decide
    rw [← Nat.succ_mul]
    congr 1
  have h4 : B64 * T' < B64 * (2 * p) := by
    rw [e, Nat.mul_left_comm]
    omega
  exact Nat.lt_of_mul_lt_mul_left h4

theorem mont_val {T' T yk x m p Q Y M : Nat} (e : B64 * T' = T + yk * x + m * p) (hM : T * Q = x * Y + M * p) : T' * (Q * B64) = x * (Y + Q * yk) + (M + m * Q) * p := by
  have e1 : T' * (Q * B64) = Q * (B64 * T') := by rw [Nat.mul_comm B64, ← Nat.mul_assoc, Nat.mul_left_comm, Nat.mul_assoc]
  rw [e1, e, Nat.mul_add, Nat.mul_add, Nat.mul_comm Q T, hM, Nat.mul_add, Nat.add_mul]
  have e2 : Q * (yk * x) = x * (Q * yk) := by rw [Nat.mul_comm x, Nat.mul_assoc]
  have e3 : Q * (m * p) = m * Q * p := by rw [Nat.mul_comm m Q, Nat.mul_assoc]
  rw [e2, e3]
  omega

set_option maxHeartbeats 4000000 in
set_option maxRecDepth 100000 in
theorem mmul_any (a p n v x y : Nat) (w : World) (hF : FldAt w a p n v) (hx : x < p) (hy : y < p) :
    Calls Tryz.prog 307 #[.pointer (some ⟨a, 0, none⟩), elv x, elv y] w (fun e w' => ∃ r, r < p ∧ (∃ M N, r * B64 ^ n + N * p = x * y + M * p) ∧ Ret w (elv r) e w') := by
  obtain ⟨d0, d1, d2, d3, d4, d5, hdg, he⟩ := elv_ex x
  obtain ⟨e0, e1, e2, e3, e4, e5, heg, he'⟩ := elv_ex y
  have HF := Lib.hid hF
  have HG := Lib.hid hdg
  have HG' := Lib.hid heg
  have HX := Lib.hid hx
  have HY := Lib.hid hy
  have hlt := hF.lt
  have hlt1 : a < w.heap.size + 1 := by omega
  have hlt2 : a < w.heap.size + 1 + 1 := by omega
  have hlt3 : a < w.heap.size + 1 + 1 + 1 := by omega
  have hn := hF.hn
  have hn6 := hF.n6
  have hn1 := hF.n1
  rw [he, he']
  clear hF hdg he hx heg he' hy
  go_enter Tryz.func307, Tryz.ntmps307
  go_wp2_with fail
  go_loopw [9, 22] (fun o i wr => ∃ (k ov : Nat) (zs : List Nat), k ≤ n ∧ i = .int .i64 k ∧ o = .int .u64 ov ∧ ov ≤ 1 ∧ Below w.heap.size w wr ∧ Row wr w.heap.size .u64 166 [d0, d1, d2, d3, d4, d5] ∧ Row wr (w.heap.size + 1) .u64 166 [e0, e1, e2, e3, e4, e5] ∧
    Row wr (w.heap.size + 1 + 1) .u64 166 [0, 0, 0, 0, 0, 0] ∧ Row wr (w.heap.size + 1 + 1 + 1) .u64 434 zs ∧ zs.length = 13 ∧ Digs B64 zs ∧ (∀ i, k + n ≤ i → zs.getD i 0 = 0) ∧ ofD B64 (zs.drop k) + ov * B64 ^ n < 2 * p ∧
    ∃ M, (ofD B64 (zs.drop k) + ov * B64 ^ n) * B64 ^ k = x * ofD B64 ((digs B64 6 y).take k) + M * p) (fun _ i _ => n - (intOf i).toNat)
  case atStart => exact ⟨0, 0, [0, 0, 0, 0, 0, 0, 0, 0, 0, 0, 0, 0, 0], Nat.zero_le _, rfl, rfl, by omega, ((((Below.refl _ _).alloc (Nat.le_refl _) _).alloc (by simp) _).alloc (by simp <;> omega) _).alloc (by simp <;> omega) _,
      Row.below (w := w.alloc _) (Row.alloc (xs := [d0, d1, d2, d3, d4, d5]) rfl) ((((Below.refl _ _).alloc (Nat.le_refl _) _).alloc (by simp) _).alloc (by simp <;> omega) _),
      Row.below (w := (w.alloc _).alloc _) (Row.alloc_at (xs := [e0, e1, e2, e3, e4, e5]) rfl (by simp)) (((Below.refl _ _).alloc (Nat.le_refl _) _).alloc (by simp) _),
      Row.below (w := ((w.alloc _).alloc _).alloc _) (Row.alloc_at (xs := [0, 0, 0, 0, 0, 0]) rfl (by simp)) ((Below.refl _ _).alloc (Nat.le_refl _) _),
      Row.alloc_at (xs := [0, 0, 0, 0, 0, 0, 0, 0, 0, 0, 0, 0, 0]) rfl (by simp), rfl, Digs.replicate (n := 13) (by decide), fun i _ => by
        show (List.replicate 13 0).getD i 0 = 0
        rw [List.getD_eq_getElem?_getD, List.getElem?_replicate]; split <;> rfl, by have := HF.out.p1; simp [ofD]; omega, 0, by simp [ofD]⟩
  case round =>
    obtain ⟨k, ov, zs, hk, rfl, rfl, hov, hb, hrx, hry, hr0, hrz, hzl, hdz, hz0, hT2, M, hTM⟩ := hrel
    have HZL := Lib.hid hzl
    have HT2 := Lib.hid hT2
    have HTM := Lib.hid hTM
    have HZ0 := Lib.hid hz0
    have HB := Lib.hid hb
    have HRX := Lib.hid hrx
    have HRY := Lib.hid hry
    have HR0 := Lib.hid hr0
    have HRZ := Lib.hid hrz
    have HDZ := Lib.hid hdz
    have HF2 := Lib.hid (HF.out.below hb)
    have hv2 := HF2.out.hv
    have hn2 := HF2.out.hn
    clear hzl hT2 hTM hz0 hb hrx hry hr0 hrz hdz hn
    by_cases hlt : k < n
    · have hcy := HRY.out.cell (i := k) (by show k < 6; omega)
      rw [← HG'.out] at hcy
      have hy := digD y k
      have HT1 := Lib.hid (ofD_take_getD (B := B64) (digs B64 6 y) k)
      generalize (digs B64 6 y).getD k 0 = yk at *
      have hs13 := sl13 (w.heap.size + 1 + 1 + 1) k (k + n + 1) ((k : Int) + n + 1) (by omega) (by omega) (by omega) (by omega)
      have hs6 := sl6 w.heap.size 0 n hn6
      have hk6 : (k : Int) < 6 := by omega
      have hs6p := sl6 a 0 n hn6
      rw [show k + n + 1 - k = n + 1 by omega] at hs13
      obtain ⟨pre, seg, post, rfl, hpre, hseg⟩ := cut_row (zs := zs) (k := k) (l := n + 1) (by rw [HZL.out]; omega)
      have hds := digs_mid HDZ.out
      have hsn : seg.getD n 0 = 0 := by
        have := HZ0.out (pre.length + n) (by rw [hpre]; exact Nat.le_refl _)
        rwa [getD_mid (by rw [hseg]; omega)] at this
      have HP0 : Hid (∀ i, post.getD i 0 = 0) := fun i => by
        have := HZ0.out ((pre ++ seg).length + i) (by rw [List.length_append, hpre, hseg]; omega)
        rwa [List.getD_eq_getElem?_getD, List.getElem?_append_right (by omega), Nat.add_sub_cancel_left, ← List.getD_eq_getElem?_getD] at this
      have HTD : Hid (ofD B64 ((pre ++ seg ++ post).drop k) = ofD B64 (seg.take n)) := drop_val hpre hseg hsn HP0.out
      have hxt : ((digs B64 6 x).take n).length = n := by rw [List.length_take, length_digs]; omega
      have hpt : ((digs B64 6 p).take n).length = n := by rw [List.length_take, length_digs]; omega
      have hxl := Nat.lt_trans HX.out HF2.out.pn
      have HC1 := Lib.hid (times_any (w.heap.size + 1 + 1 + 1) 434 (some ⟨w.heap.size, 0, none⟩) 6 (13 - k) yk pre seg post ((digs B64 6 x).take n) wr.drew (by rw [B64_eq]; exact hy) (by rw [hxt, hseg]; omega)
        ((HRX.out.drew.rd (by show 6 ≤ _; omega)).of_eq (by rw [HG.out]) |>.take n) (fun b' off h => by cases h; omega) HRZ.out.drew hds ((Digs.digs (by decide) _ _).take _))
      rw [hxt, hseg, hpre] at HC1
      have HXV := Lib.hid (digs_take hxl hn6)
      have HPV := Lib.hid (digs_take HF2.out.pn hn6)
      have HPRE := Lib.hid hpre
      have HSEG := Lib.hid hseg
      have HXT := Lib.hid hxt
      have HPT := Lib.hid hpt
      have HSN := Lib.hid hsn
      clear hpre hseg hxt hpt hxl hds hsn
      go_wp2_with fail
      refine wp_region_still_tail 6 (by kernel_rfl) (by kernel_rfl) ?_
      simp only [List.take_succ_cons, List.take_zero, List.drop_succ_cons, List.drop_zero]
      change wpStill _ _ wr.drew _ _ _
      repeat still_step
      refine wpStill_nil ?_
      change wpList _ _ _ _ _ wr.drew
      go_wp2_with fail
      refine HC1.out.mono ?_
      rintro e w1 ⟨c1, sg1, rfl, hc1, hon1, hrow1, hsl1, hds1, hE1, hh1⟩
      rw [HXT.out] at hE1 hh1
      rw [HXV.out] at hE1
      have hzn := hh1 n (Nat.le_refl _)
      rw [HSN.out] at hzn
      rw [HSEG.out] at hsl1
      have hmidn := hrow1.mid (i := n) (by rw [hsl1]; omega)
      have hfrn := hrow1.frozen (k + n)
      have hset1 := fun v => hrow1.setMid (i := n) (by rw [hsl1]; omega) v
      have HS1 := Lib.hid (low_digit hds1 (show 1 ≤ n from hn1) (show 1 ≤ sg1.length by rw [hsl1]; omega))
      have hz0 := hds1.getD (by decide) 0
      have hznB := hds1.getD (by decide) n
      have hmid0 := (hset1 0).mid (i := 0)
      rw [HPRE.out] at hmidn hset1
      rw [B64_eq] at hc1 hz0 hznB
      have HB1 := Lib.hid (HB.out.drew.trans (hon1.below (B := w.heap.size) (by omega)))
      have HE1 := Lib.hid hE1
      have HSL1 := Lib.hid hsl1
      have HDS1 := Lib.hid hds1
      have HZN := Lib.hid hzn
      have HON1 := Lib.hid hon1
      have HSET1 := fun v => Lib.hid (hset1 v)
      clear hE1 hsl1 hds1 hzn hon1 hrow1 hset1 hh1 hmid0
      generalize sg1.getD n 0 = zn at *
      generalize hz : sg1.getD 0 0 = z0 at *
      obtain ⟨s, c, hs, hc, hm1, hadd1⟩ := add64_ex zn c1 ov hznB hc1 hov
      have hsl2 : (sg1.set n s).length = n + 1 := by rw [List.length_set]; exact HSL1.out
      have hds2 : Digs B64 (sg1.set n s) := HDS1.out.set _ (by rw [B64_eq]; exact hs)
      have hrow2 := (HSET1 s).out
      have HTK2 : Hid (ofD B64 ((sg1.set n s).take n) = ofD B64 (sg1.take n)) := by
        show _ = _
        rw [List.take_set_of_le (Nat.le_refl _)]
      have hz2 : (sg1.set n s).getD 0 0 = z0 := by
        rw [List.getD_eq_getElem?_getD, List.getElem?_set_ne (by omega), ← List.getD_eq_getElem?_getD]; exact hz
      have hsn2 : (sg1.set n s).getD n 0 = s := by
        rw [List.getD_eq_getElem?_getD, List.getElem?_set_self (by rw [HSL1.out]; omega)]; rfl
      have hmid2 : (w1.setCell ⟨w.heap.size + 1 + 1 + 1, k + n, none⟩ (.int .u64 (s : Nat))).cell? ⟨w.heap.size + 1 + 1 + 1, k, none⟩ = some (.int .u64 (z0 : Nat)) := by
        have := hrow2.mid (i := 0) (by rw [hsl2]; omega)
        rw [HPRE.out, hz2] at this
        exact this
      have HB2 := Lib.hid (HB1.out.setCell (p := ⟨w.heap.size + 1 + 1 + 1, k + n, none⟩) (by show w.heap.size ≤ w.heap.size + 1 + 1 + 1; omega) (.int .u64 (s : Nat)))
      have HRX2 := Lib.hid ((HON1.out.row (show w.heap.size ≠ w.heap.size + 1 + 1 + 1 by omega) HRX.out.drew).far (a := ⟨w.heap.size + 1 + 1 + 1, k + n, none⟩) (by show w.heap.size ≠ w.heap.size + 1 + 1 + 1; omega) (.int .u64 (s : Nat)))
      have HRY2 := Lib.hid ((HON1.out.row (show w.heap.size + 1 ≠ w.heap.size + 1 + 1 + 1 by omega) HRY.out.drew).far (a := ⟨w.heap.size + 1 + 1 + 1, k + n, none⟩) (by show w.heap.size + 1 ≠ w.heap.size + 1 + 1 + 1; omega) (.int .u64 (s : Nat)))
      have HR02 := Lib.hid ((HON1.out.row (show w.heap.size + 1 + 1 ≠ w.heap.size + 1 + 1 + 1 by omega) HR0.out.drew).far (a := ⟨w.heap.size + 1 + 1 + 1, k + n, none⟩) (by show w.heap.size + 1 + 1 ≠ w.heap.size + 1 + 1 + 1; omega) (.int .u64 (s : Nat)))
      clear hz hz2
      have HF4 := Lib.hid (HF.out.below HB2.out)
      have hv4 := HF4.out.hv
      obtain ⟨m, hm⟩ : ∃ m, m = z0 * v % B64 := ⟨_, rfl⟩
      have hmB : m < 18446744073709551616 := by rw [hm, ← B64_eq]; exact Nat.mod_lt _ (by decide)
      have hmw : IntKind.u64.wrap ((z0 : Int) * (v : Int)) = (m : Int) := by rw [IntKind.wrap_u64, hm, B64_eq]; omega
      have HMM := Lib.hid hm
      have HC2 := Lib.hid (times_any (w.heap.size + 1 + 1 + 1) 434 (some ⟨a, 0, none⟩) 6 (13 - k) m pre (sg1.set n s) post ((digs B64 6 p).take n) _ (by rw [B64_eq]; exact hmB) (by rw [HPT.out, hsl2]; omega)
        (Rd.ofF (HF.out.below HB2.out.drew)) (fun b' off h => by cases h; omega) hrow2.drew hds2 ((Digs.digs (by decide) _ _).take _))
      rw [HPT.out, hsl2, HPRE.out] at HC2
      have HSN2 := Lib.hid hsn2
      have HSL2 := Lib.hid hsl2
      have HY := Lib.hid HY.out
      clear hm hrow2 hsn2 hds2 hsl2
      go_wp2_with fail
      generalize (w1.setCell ⟨w.heap.size + 1 + 1 + 1, k + n, none⟩ (.int .u64 (s : Nat))) = w2 at HC2 HB2 hmid2 HF4 hv4 HRX2 HRY2 HR02 ⊢
      refine wp_region_still_tail 14 (by kernel_rfl) (by kernel_rfl) ?_
      simp only [List.take_succ_cons, List.take_zero, List.drop_succ_cons, List.drop_zero]
      change wpStill _ _ w2.drew _ _ _
      repeat still_step
      refine wpStill_nil ?_
      change wpList _ _ _ _ _ w2.drew
      go_wp2_with fail
      refine HC2.out.mono ?_
      rintro e w3 ⟨c2, sg3, rfl, hc2, hon3, hrow3, hsl3, hds3, hE3, hh3⟩
      rw [HPT.out] at hE3 hh3
      rw [HPV.out, HTK2.out] at hE3
      rw [HSL2.out] at hsl3
      have hs3 := hh3 n (Nat.le_refl _)
      rw [HSN2.out] at hs3
      have hmid3 := hrow3.mid (i := n) (by rw [hsl3]; omega)
      have hfr3 := hrow3.frozen (k + n)
      have hset3 := fun v => hrow3.setMid (i := n) (by rw [hsl3]; omega) v
      rw [HPRE.out] at hmid3 hset3
      rw [hs3] at hmid3
      rw [B64_eq] at hc2
      obtain ⟨s', d, hs', hd, hm4, hadd4⟩ := add64_ex0 s c2 hs hc2
      have hV : ofD B64 (sg3.set n s') = ofD B64 (sg3.take n) + B64 ^ n * s' := by
        have := ofD_take_set (B := B64) (zs := sg3) (i := n) (v := s') (by rw [hsl3]; omega)
        rwa [List.take_of_length_le (by rw [List.length_set, hsl3]; exact Nat.le_refl _)] at this
      have hSUM := mont_sum HE1.out hm1 HZN.out hE3 hm4 hV
      have hZERO := mont_zero hn1 HS1.out HMM.out HF4.out.pv hE3
      have hds4 : Digs B64 (sg3.set n s') := hds3.set _ (by rw [B64_eq]; exact hs')
      have hSH := mont_shift (by rw [List.length_set]; exact hsl3) hds4 hn1 hV hZERO
      have hTT : B64 * (ofD B64 ((sg3.set n s').drop 1) + (c + d) * B64 ^ n) = (ofD B64 (seg.take n) + ov * B64 ^ n) + yk * x + m * p := by
        rw [Nat.mul_add, ← hSH, ← hSUM, Nat.mul_comm (c + d), ← Nat.mul_assoc, Nat.mul_comm B64 (B64 ^ n)]
      have hT0 := HT2.out
      have hTM0 := HTM.out
      rw [HTD.out] at hT0 hTM0
      have HNX := Lib.hid (mont_next hTT hT0 (by rw [B64_eq]; exact hy) (by rw [B64_eq]; exact hmB) HX.out)
      have HVL := Lib.hid (mont_val hTT hTM0)
      have hov2 : c + d ≤ 1 := by
        rcases Nat.lt_or_ge (c + d) 2 with h | h
        · omega
        · exfalso
          have h1 := HNX.out
          have h2 : 2 * B64 ^ n ≤ (c + d) * B64 ^ n := Nat.mul_le_mul_right _ h
          have h3 := HF4.out.pn
          omega
      have HDR : Hid (ofD B64 ((pre ++ sg3.set n s' ++ post).drop (k + 1)) = ofD B64 ((sg3.set n s').drop 1)) := drop_val1 HPRE.out (by rw [List.length_set, hsl3]; omega) HP0.out
      have HSET3 := Lib.hid (hset3 s')
      have HDS4 : Hid (Digs B64 (pre ++ sg3.set n s' ++ post)) := ((digs_pre HDZ.out).append hds4).append (digs_post HDZ.out)
      have HL4 : Hid ((pre ++ sg3.set n s' ++ post).length = 13) := by
        have := HZL.out
        show _ = 13
        simp only [List.length_append, List.length_set] at this ⊢
        rw [hsl3, ← HSEG.out]; exact this
      have HZ4 : Hid (∀ i, k + 1 + n ≤ i → (pre ++ sg3.set n s' ++ post).getD i 0 = 0) := fun i hi => by
        rw [List.getD_eq_getElem?_getD, List.getElem?_append_right (by rw [List.length_append, List.length_set, HPRE.out, hsl3]; omega), ← List.getD_eq_getElem?_getD]; exact HP0.out _
      have HB3 := Lib.hid (HB2.out.drew.trans (hon3.below (B := w.heap.size) (by omega)))
      have HRX3 := Lib.hid (hon3.row (show w.heap.size ≠ w.heap.size + 1 + 1 + 1 by omega) (HRX2.out).drew)
      have HRY3 := Lib.hid (hon3.row (show w.heap.size + 1 ≠ w.heap.size + 1 + 1 + 1 by omega) (HRY2.out).drew)
      have HR03 := Lib.hid (hon3.row (show w.heap.size + 1 + 1 ≠ w.heap.size + 1 + 1 + 1 by omega) (HR02.out).drew)
      clear hm4 hV hSUM hZERO hSH hTT hT0 hTM0 hset3 hrow3 hds3 hE3 hh3 hs3 hds4 hsl3 hon3
      go_wp2_with fail
      go_roundw
      case rel => exact ⟨k + 1, c + d, pre ++ sg3.set n s' ++ post, hlt, by go_num, by go_num, hov2, HB3.out.setCell (by show w.heap.size ≤ w.heap.size + 1 + 1 + 1; omega) _, HRX3.out.far (by show w.heap.size ≠ w.heap.size + 1 + 1 + 1; omega) _, HRY3.out.far (by show w.heap.size + 1 ≠ w.heap.size + 1 + 1 + 1; omega) _, HR03.out.far (by show w.heap.size + 1 + 1 ≠ w.heap.size + 1 + 1 + 1; omega) _, HSET3.out, HL4.out, HDS4.out, HZ4.out, by rw [HDR.out]; exact HNX.out, _, by rw [HDR.out, HT1.out, Nat.pow_succ]; exact HVL.out⟩
      case measure => simp [intOf]; omega
    · have hkk : k = n := by omega
      subst hkk
      have hxl := Nat.lt_trans HX.out HF2.out.pn
      have hyl := Nat.lt_trans HY.out HF2.out.pn
      obtain ⟨T0, hT0⟩ : ∃ T0, T0 = ofD B64 (zs.drop k) := ⟨_, rfl⟩
      have hxs : ((zs.drop k).take k).length = k := by rw [List.length_take, List.length_drop, HZL.out]; omega
      have hT0' : ofD B64 ((zs.drop k).take k) = T0 := by
        rw [hT0]
        refine take_high fun i hi => ?_
        have := HZ0.out (k + i) (by omega)
        rwa [List.getD_eq_getElem?_getD, List.getElem?_drop, ← List.getD_eq_getElem?_getD]
      have hdx : Digs B64 ((zs.drop k).take k) := (HDZ.out.drop _).take _
      have hT0P : T0 < B64 ^ k := by
        rw [← hT0']
        have := ofD_lt hdx
        rwa [hxs] at this
      have hlw := HT2.out
      have htm := HTM.out
      rw [← hT0] at hlw htm
      rw [digs_take hyl hn6] at htm
      have HTME := Lib.hid htm
      have hlow := fun w1 (h : FldAt w1 a p k v) => lowered_any a p k v T0 ov w1 h hT0P hov hlw
      generalize hgx : (zs.drop k).take k = xs at *
      have hrd : Rd wr .u64 (some ⟨w.heap.size + 1 + 1 + 1, k, none⟩) xs := by
        rw [← hgx]
        have := ((HRZ.out.rd (by rw [HZL.out]; omega)).drop k).take k
        rwa [Nat.zero_add] at this
      have HOL : Hid ((xs ++ List.replicate (6 - k) 0).length = 6) := by show _ = _; rw [List.length_append, hxs, List.length_replicate]; omega
      have HOD : Hid (Digs B64 (xs ++ List.replicate (6 - k) 0)) := hdx.append (Digs.replicate (by decide) _)
      have HOV : Hid (ofD B64 (xs ++ List.replicate (6 - k) 0) = T0) := by show _ = _; rw [ofD_append, ofD_replicate, Nat.mul_zero, Nat.add_zero, hT0']
      have HRD := Lib.hid hrd
      have HXS := Lib.hid hxs
      clear hT0 hT0' hgx hxs hdx hT0P hlw htm hrd hxl hyl
      have hs13 := sl13 (w.heap.size + 1 + 1 + 1) k (2 * k) (2 * (k : Int)) (by omega) (by omega) (by omega) (by omega)
      rw [show 2 * k - k = k by omega] at hs13
      have hs6 := sl6 wr.heap.size 0 k hn6
      go_wp2_with fail
      refine wp_region_still_tail 6 (by kernel_rfl) (by kernel_rfl) ?_
      simp only [List.take_succ_cons, List.take_zero, List.drop_succ_cons, List.drop_zero]
      have hwk : IntKind.i64.wrap (2 * (k : Int)) = 2 * (k : Int) := IntWalk.i64_in _ (by omega)
      generalize hwa : wr.alloc _ = wa
      change wpStill _ _ wa.drew _ _ _
      repeat still_step
      refine wpStill_nil ?_
      change wpList _ _ _ _ _ wa.drew
      subst hwa
      refine copy_row64 rfl _ _ rfl wr.heap.size 0 k 6 rfl (some ⟨w.heap.size + 1 + 1 + 1, k, none⟩) k (13 - k) rfl (List.replicate 6 0) 166 (Row.drew (Row.alloc rfl)) xs (by rw [HXS.out]; exact (Nat.min_self _).symm) (HRD.out.below (((Below.refl _ _).alloc (Nat.le_refl _) _).drew)) (by rw [HXS.out, List.length_replicate]; omega) wr.heap.size wr (((Below.refl _ _).alloc (Nat.le_refl _) _).drew) (Nat.le_refl _) ?_
      intro w4 hr4 hb4
      rw [List.take_zero, List.nil_append, HXS.out, Nat.zero_add, List.drop_replicate] at hr4
      have HB4 := Lib.hid (HB.out.trans (hb4.mono HB.out.size))
      have HR04 := Lib.hid (HR0.out.below hb4)
      have HF4 := Lib.hid (HF2.out.below hb4)
      have HR4 := Lib.hid hr4
      clear hr4 hb4
      generalize xs ++ List.replicate (6 - k) 0 = os at *
      obtain ⟨z0, z1, z2, z3, z4, z5, rfl⟩ := six HOL.out
      obtain ⟨hz0, hz1, hz2, hz3, hz4, hz5⟩ := HR4.out.six
      rw [← HOV.out, elv_of rfl HOD.out, HOV.out] at hlow
      obtain ⟨r0, r1, r2, r3, r4, r5, hrg, hre⟩ := elv_ex ((T0 + ov * B64 ^ k) % p)
      have HRE := Lib.hid hre
      rw [hre] at hlow
      have HLOW := Lib.hid (hlow _ HF4.out)
      clear hlow hrg hre
      go_wp2_with fail
      refine HLOW.out.mono ?_
      rintro e w' ⟨rfl, hb⟩
      have HR1 := Lib.hid (HR04.out.below hb)
      have HB1 := Lib.hid (HB4.out.trans (hb.mono HB4.out.size))
      obtain ⟨hs0, hs1, hs2, hs3, hs4, hs5⟩ := HR1.out.six
      have hsf := HR1.out.frozen
      clear hb
      go_wp2_with fail
      refine ret_elem rfl (w.heap.size + 1 + 1) [r0, r1, r2, r3, r4, r5] rfl (Row.put6 HR1.out ..) _ Tryz.underlying166 rfl (by kernel_rfl) rfl ⟨_, Nat.mod_lt _ (by have := HF4.out.p1; omega), ⟨M, (T0 + ov * B64 ^ k) / p * B64 ^ k, mont_last HTME.out⟩, by rw [HRE.out]; rfl, Below.put6 HB1.out (by omega) ..⟩
end Go.Proofs.YtjokcbjahidckaaGreat
