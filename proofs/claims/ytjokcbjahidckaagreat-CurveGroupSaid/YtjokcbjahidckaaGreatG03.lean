/- Texts put together: New, First, Pnt, With. Conditions: those of each part. -/
import Derived.Test.YtjokcbjahidckaaGreatG02
set_option linter.unusedVariables false
/-! field.prime, field.New: the field of a kind, or none. Condition: none. -/
namespace Go.Proofs.YtjokcbjahidckaaGreat
open Go.RowKit

theorem ieq_f {a b : Int} (h : a ≠ b) : (a == b) = false := by simpa using h
/-- A field.Field lies in block f, whole, over mont's in block a. -/
structure GB (w : World) (f a p n v z : Nat) : Prop where
  own : w.heap[f]? = some (.cells #[.pointer (some ⟨a, 0, none⟩), .int .i64 (z : Nat)] 308 (0, 0))
  fld : FldB w a p n v
theorem FldB.grow {T : List TypeId} {w w' : World} {a p n v : Nat} (hg : Grow T w w') (hT : T.contains 393 = false) (h : FldB w a p n v) : FldB w' a p n v := by
  obtain ⟨⟨C, hC⟩, hF⟩ := h
  have h1 := hg.block a _ hC fun C t fr e => by cases e; exact hT
  refine ⟨⟨C, h1⟩, ?_⟩
  have e : ∀ i, w'.cell? ⟨a, i, none⟩ = w.cell? ⟨a, i, none⟩ := fun i => by simp only [World.cell?]; rw [h1, hC]
  exact { hF with hp := fun i hi => (e _).trans (hF.hp i hi), hn := (e _).trans hF.hn, hv := (e _).trans hF.hv, h1 := fun i hi => (e _).trans (hF.h1 i hi), h2 := fun i hi => (e _).trans (hF.h2 i hi) }
theorem GB.grow {T : List TypeId} {w w' : World} {f a p n v z : Nat} (hg : Grow T w w') (hT : T.contains 393 = false) (hT2 : T.contains 308 = false) (h : GB w f a p n v z) : GB w' f a p n v z :=
  ⟨hg.block f _ h.own fun C t fr e => by cases e; exact hT2, h.fld.grow hg hT⟩
theorem GB.toG {w : World} {f a p n v z : Nat} (h : GB w f a p n v z) : GAt w f a p n v z :=
  ⟨by simp only [World.cell?]; rw [h.own]; rfl, by simp only [World.cell?]; rw [h.own]; rfl, h.fld.2⟩
theorem Rd.grow0 {w w' : World} {k : IntKind} {A : Option Addr} {xs : List Nat} (hg : Grow [] w w') (h : Rd w k A xs) : Rd w' k A xs := by
  refine ⟨h.1, h.2.imp id ?_⟩
  rintro ⟨b, off, rfl, hx⟩
  refine ⟨b, off, rfl, fun j hj => ?_⟩
  have := hx j hj
  have hlt := World.block_lt_of_cell? w _ this
  obtain ⟨o, ho⟩ : ∃ o, w.heap[b]? = some o := ⟨_, Array.getElem?_eq_getElem hlt⟩
  have h1 := hg.block b o ho fun _ _ _ _ => rfl
  simp only [World.cell?] at this ⊢
  rw [ho] at this
  rw [h1]
  exact this
theorem SlR.grow0 {w w' : World} {k : IntKind} {xs : List Nat} {d : Dat} (hg : Grow [] w w') (h : SlR k xs d w) : SlR k xs d w' := ⟨h.1, h.2.grow0 hg⟩
/-- How long an element is in bytes. -/
def psz (k : Nat) : Nat := 8 * pml k
/-- What field.New says of a kind. -/
abbrev NewR (w : World) (k : Nat) : Ending → World → Prop := RetR w (fun d => .tuple #[.pointer (some ⟨d.n 0, 0, none⟩), .int .i64 0]) (fun d w => GB w (d.n 0) (d.n 1) (prm k) (pml k) (d.n 2) (psz k))

theorem prime288_1 {w : World} : Calls Tryz.prog 288 #[.int .i64 1] w (Ret w (.string (hexS 1))) := by
  refine calls_of_wp Tryz.func288 (by rfl : Tryz.f288.body = some _) ?_
  have hF : Fr [(0, .int .i64 1)] 16 _ := Fr.start (args := #[.int .i64 1]) (m := 16) (by simp)
  have hI := Inv.start0 w
  refine wp_seq ?_
  refine sy [] #[va (.string ⟨#[]⟩)]
    (fun g1 => [(0, .int .i64 1), (2, .string ⟨#[]⟩)]) (fun _ => []) (fun _ => [])
    hF hI trivial (fun g => ⟨pv, trivial⟩) ?_
  intro g1 a1 w1 hF hI
  refine wp_seq ?_
  refine wp_seq ?_
  refine sy [] #[va (.int .i64 1)]
    (fun g2 => [(2, .string ⟨#[]⟩), (3, .int .i64 1)]) (fun _ => []) (fun _ => [])
    hF hI trivial (fun g => ⟨pv, trivial⟩) ?_
  intro g2 a2 w2 hF hI
  refine wp_block ?_
  refine wp_seq ?_
  refine sy [] #[va (.bool true),
      va (.bool true)]
    (fun g3 => [(2, .string ⟨#[]⟩), (3, .int .i64 1), (4, .bool true)]) (fun _ => []) (fun _ => [])
    hF hI trivial (fun g => ⟨pv,
      pv, trivial⟩) ?_
  intro g3 a3 w3 hF hI
  refine wp_cond_true (hF.eval rfl) ?_
  refine wp_seq ?_
  refine sy [] #[va (.string (hexS 1))]
    (fun g4 => [(2, .string (hexS 1))]) (fun _ => []) (fun _ => [])
    hF hI trivial (fun g => ⟨pv, trivial⟩) ?_
  intro g4 a4 w4 hF hI
  refine wp_ret ?_
  show bodyPost Tryz.prog Tryz.f288 (Ret w (.string (hexS 1))) .ret _ _
  exact sym_ret rfl hF.df (rv_tmp hF rfl) ⟨rfl, hI.below⟩

theorem prime288_2 {w : World} : Calls Tryz.prog 288 #[.int .i64 2] w (Ret w (.string (hexS 2))) := by
  refine calls_of_wp Tryz.func288 (by rfl : Tryz.f288.body = some _) ?_
  have hF : Fr [(0, .int .i64 2)] 16 _ := Fr.start (args := #[.int .i64 2]) (m := 16) (by simp)
  have hI := Inv.start0 w
  refine wp_seq ?_
  refine sy [] #[va (.string ⟨#[]⟩)]
    (fun g1 => [(0, .int .i64 2), (2, .string ⟨#[]⟩)]) (fun _ => []) (fun _ => [])
    hF hI trivial (fun g => ⟨pv, trivial⟩) ?_
  intro g1 a1 w1 hF hI
  refine wp_seq ?_
  refine wp_seq ?_
  refine sy [] #[va (.int .i64 2)]
    (fun g2 => [(2, .string ⟨#[]⟩), (3, .int .i64 2)]) (fun _ => []) (fun _ => [])
    hF hI trivial (fun g => ⟨pv, trivial⟩) ?_
  intro g2 a2 w2 hF hI
  refine wp_block ?_
  refine wp_seq ?_
  refine sy [] #[va (.bool false),
      va (.bool false)]
    (fun g3 => [(2, .string ⟨#[]⟩), (3, .int .i64 2), (4, .bool false)]) (fun _ => []) (fun _ => [])
    hF hI trivial (fun g => ⟨pv,
      pv, trivial⟩) ?_
  intro g3 a3 w3 hF hI
  refine wp_cond_false (hF.eval rfl) ?_
  refine wp_seq ?_
  refine sy [] #[va (.bool true),
      va (.bool true)]
    (fun g4 => [(2, .string ⟨#[]⟩), (3, .int .i64 2), (6, .bool true)]) (fun _ => []) (fun _ => [])
    hF hI trivial (fun g => ⟨pv,
      pv, trivial⟩) ?_
  intro g4 a4 w4 hF hI
  refine wp_cond_true (hF.eval rfl) ?_
  refine wp_seq ?_
  refine sy [] #[va (.string (hexS 2))]
    (fun g5 => [(2, .string (hexS 2))]) (fun _ => []) (fun _ => [])
    hF hI trivial (fun g => ⟨pv, trivial⟩) ?_
  intro g5 a5 w5 hF hI
  refine wp_ret ?_
  show bodyPost Tryz.prog Tryz.f288 (Ret w (.string (hexS 2))) .ret _ _
  exact sym_ret rfl hF.df (rv_tmp hF rfl) ⟨rfl, hI.below⟩

theorem prime288_3 {w : World} : Calls Tryz.prog 288 #[.int .i64 3] w (Ret w (.string (hexS 3))) := by
  refine calls_of_wp Tryz.func288 (by rfl : Tryz.f288.body = some _) ?_
  have hF : Fr [(0, .int .i64 3)] 16 _ := Fr.start (args := #[.int .i64 3]) (m := 16) (by simp)
  have hI := Inv.start0 w
  refine wp_seq ?_
  refine sy [] #[va (.string ⟨#[]⟩)]
    (fun g1 => [(0, .int .i64 3), (2, .string ⟨#[]⟩)]) (fun _ => []) (fun _ => [])
    hF hI trivial (fun g => ⟨pv, trivial⟩) ?_
  intro g1 a1 w1 hF hI
  refine wp_seq ?_
  refine wp_seq ?_
  refine sy [] #[va (.int .i64 3)]
    (fun g2 => [(2, .string ⟨#[]⟩), (3, .int .i64 3)]) (fun _ => []) (fun _ => [])
    hF hI trivial (fun g => ⟨pv, trivial⟩) ?_
  intro g2 a2 w2 hF hI
  refine wp_block ?_
  refine wp_seq ?_
  refine sy [] #[va (.bool false),
      va (.bool false)]
    (fun g3 => [(2, .string ⟨#[]⟩), (3, .int .i64 3), (4, .bool false)]) (fun _ => []) (fun _ => [])
    hF hI trivial (fun g => ⟨pv,
      pv, trivial⟩) ?_
  intro g3 a3 w3 hF hI
  refine wp_cond_false (hF.eval rfl) ?_
  refine wp_seq ?_
  refine sy [] #[va (.bool false),
      va (.bool false)]
    (fun g4 => [(2, .string ⟨#[]⟩), (3, .int .i64 3), (6, .bool false)]) (fun _ => []) (fun _ => [])
    hF hI trivial (fun g => ⟨pv,
      pv, trivial⟩) ?_
  intro g4 a4 w4 hF hI
  refine wp_cond_false (hF.eval rfl) ?_
  refine wp_seq ?_
  refine sy [] #[va (.bool true),
      va (.bool true)]
    (fun g5 => [(2, .string ⟨#[]⟩), (3, .int .i64 3), (8, .bool true)]) (fun _ => []) (fun _ => [])
    hF hI trivial (fun g => ⟨pv,
      pv, trivial⟩) ?_
  intro g5 a5 w5 hF hI
  refine wp_cond_true (hF.eval rfl) ?_
  refine wp_seq ?_
  refine sy [] #[va (.string (hexS 3))]
    (fun g6 => [(2, .string (hexS 3))]) (fun _ => []) (fun _ => [])
    hF hI trivial (fun g => ⟨pv, trivial⟩) ?_
  intro g6 a6 w6 hF hI
  refine wp_ret ?_
  show bodyPost Tryz.prog Tryz.f288 (Ret w (.string (hexS 3))) .ret _ _
  exact sym_ret rfl hF.df (rv_tmp hF rfl) ⟨rfl, hI.below⟩

theorem prime288_4 {w : World} : Calls Tryz.prog 288 #[.int .i64 4] w (Ret w (.string (hexS 4))) := by
  refine calls_of_wp Tryz.func288 (by rfl : Tryz.f288.body = some _) ?_
  have hF : Fr [(0, .int .i64 4)] 16 _ := Fr.start (args := #[.int .i64 4]) (m := 16) (by simp)
  have hI := Inv.start0 w
  refine wp_seq ?_
  refine sy [] #[va (.string ⟨#[]⟩)]
    (fun g1 => [(0, .int .i64 4), (2, .string ⟨#[]⟩)]) (fun _ => []) (fun _ => [])
    hF hI trivial (fun g => ⟨pv, trivial⟩) ?_
  intro g1 a1 w1 hF hI
  refine wp_seq ?_
  refine wp_seq ?_
  refine sy [] #[va (.int .i64 4)]
    (fun g2 => [(2, .string ⟨#[]⟩), (3, .int .i64 4)]) (fun _ => []) (fun _ => [])
    hF hI trivial (fun g => ⟨pv, trivial⟩) ?_
  intro g2 a2 w2 hF hI
  refine wp_block ?_
  refine wp_seq ?_
  refine sy [] #[va (.bool false),
      va (.bool false)]
    (fun g3 => [(2, .string ⟨#[]⟩), (3, .int .i64 4), (4, .bool false)]) (fun _ => []) (fun _ => [])
    hF hI trivial (fun g => ⟨pv,
      pv, trivial⟩) ?_
  intro g3 a3 w3 hF hI
  refine wp_cond_false (hF.eval rfl) ?_
  refine wp_seq ?_
  refine sy [] #[va (.bool false),
      va (.bool false)]
    (fun g4 => [(2, .string ⟨#[]⟩), (3, .int .i64 4), (6, .bool false)]) (fun _ => []) (fun _ => [])
    hF hI trivial (fun g => ⟨pv,
      pv, trivial⟩) ?_
  intro g4 a4 w4 hF hI
  refine wp_cond_false (hF.eval rfl) ?_
  refine wp_seq ?_
  refine sy [] #[va (.bool false),
      va (.bool false)]
    (fun g5 => [(2, .string ⟨#[]⟩), (3, .int .i64 4), (8, .bool false)]) (fun _ => []) (fun _ => [])
    hF hI trivial (fun g => ⟨pv,
      pv, trivial⟩) ?_
  intro g5 a5 w5 hF hI
  refine wp_cond_false (hF.eval rfl) ?_
  refine wp_seq ?_
  refine sy [] #[va (.bool true),
      va (.bool true)]
    (fun g6 => [(2, .string ⟨#[]⟩), (3, .int .i64 4), (10, .bool true)]) (fun _ => []) (fun _ => [])
    hF hI trivial (fun g => ⟨pv,
      pv, trivial⟩) ?_
  intro g6 a6 w6 hF hI
  refine wp_cond_true (hF.eval rfl) ?_
  refine wp_seq ?_
  refine sy [] #[va (.string (hexS 4))]
    (fun g7 => [(2, .string (hexS 4))]) (fun _ => []) (fun _ => [])
    hF hI trivial (fun g => ⟨pv, trivial⟩) ?_
  intro g7 a7 w7 hF hI
  refine wp_ret ?_
  show bodyPost Tryz.prog Tryz.f288 (Ret w (.string (hexS 4))) .ret _ _
  exact sym_ret rfl hF.df (rv_tmp hF rfl) ⟨rfl, hI.below⟩

theorem prime288_5 {w : World} : Calls Tryz.prog 288 #[.int .i64 5] w (Ret w (.string (hexS 5))) := by
  refine calls_of_wp Tryz.func288 (by rfl : Tryz.f288.body = some _) ?_
  have hF : Fr [(0, .int .i64 5)] 16 _ := Fr.start (args := #[.int .i64 5]) (m := 16) (by simp)
  have hI := Inv.start0 w
  refine wp_seq ?_
  refine sy [] #[va (.string ⟨#[]⟩)]
    (fun g1 => [(0, .int .i64 5), (2, .string ⟨#[]⟩)]) (fun _ => []) (fun _ => [])
    hF hI trivial (fun g => ⟨pv, trivial⟩) ?_
  intro g1 a1 w1 hF hI
  refine wp_seq ?_
  refine wp_seq ?_
  refine sy [] #[va (.int .i64 5)]
    (fun g2 => [(2, .string ⟨#[]⟩), (3, .int .i64 5)]) (fun _ => []) (fun _ => [])
    hF hI trivial (fun g => ⟨pv, trivial⟩) ?_
  intro g2 a2 w2 hF hI
  refine wp_block ?_
  refine wp_seq ?_
  refine sy [] #[va (.bool false),
      va (.bool false)]
    (fun g3 => [(2, .string ⟨#[]⟩), (3, .int .i64 5), (4, .bool false)]) (fun _ => []) (fun _ => [])
    hF hI trivial (fun g => ⟨pv,
      pv, trivial⟩) ?_
  intro g3 a3 w3 hF hI
  refine wp_cond_false (hF.eval rfl) ?_
  refine wp_seq ?_
  refine sy [] #[va (.bool false),
      va (.bool false)]
    (fun g4 => [(2, .string ⟨#[]⟩), (3, .int .i64 5), (6, .bool false)]) (fun _ => []) (fun _ => [])
    hF hI trivial (fun g => ⟨pv,
      pv, trivial⟩) ?_
  intro g4 a4 w4 hF hI
  refine wp_cond_false (hF.eval rfl) ?_
  refine wp_seq ?_
  refine sy [] #[va (.bool false),
      va (.bool false)]
    (fun g5 => [(2, .string ⟨#[]⟩), (3, .int .i64 5), (8, .bool false)]) (fun _ => []) (fun _ => [])
    hF hI trivial (fun g => ⟨pv,
      pv, trivial⟩) ?_
  intro g5 a5 w5 hF hI
  refine wp_cond_false (hF.eval rfl) ?_
  refine wp_seq ?_
  refine sy [] #[va (.bool false),
      va (.bool false)]
    (fun g6 => [(2, .string ⟨#[]⟩), (3, .int .i64 5), (10, .bool false)]) (fun _ => []) (fun _ => [])
    hF hI trivial (fun g => ⟨pv,
      pv, trivial⟩) ?_
  intro g6 a6 w6 hF hI
  refine wp_cond_false (hF.eval rfl) ?_
  refine wp_seq ?_
  refine sy [] #[va (.bool true),
      va (.bool true)]
    (fun g7 => [(2, .string ⟨#[]⟩), (3, .int .i64 5), (12, .bool true)]) (fun _ => []) (fun _ => [])
    hF hI trivial (fun g => ⟨pv,
      pv, trivial⟩) ?_
  intro g7 a7 w7 hF hI
  refine wp_cond_true (hF.eval rfl) ?_
  refine wp_seq ?_
  refine sy [] #[va (.string (hexS 5))]
    (fun g8 => [(2, .string (hexS 5))]) (fun _ => []) (fun _ => [])
    hF hI trivial (fun g => ⟨pv, trivial⟩) ?_
  intro g8 a8 w8 hF hI
  refine wp_ret ?_
  show bodyPost Tryz.prog Tryz.f288 (Ret w (.string (hexS 5))) .ret _ _
  exact sym_ret rfl hF.df (rv_tmp hF rfl) ⟨rfl, hI.below⟩

theorem prime288_6 {w : World} : Calls Tryz.prog 288 #[.int .i64 6] w (Ret w (.string (hexS 6))) := by
  refine calls_of_wp Tryz.func288 (by rfl : Tryz.f288.body = some _) ?_
  have hF : Fr [(0, .int .i64 6)] 16 _ := Fr.start (args := #[.int .i64 6]) (m := 16) (by simp)
  have hI := Inv.start0 w
  refine wp_seq ?_
  refine sy [] #[va (.string ⟨#[]⟩)]
    (fun g1 => [(0, .int .i64 6), (2, .string ⟨#[]⟩)]) (fun _ => []) (fun _ => [])
    hF hI trivial (fun g => ⟨pv, trivial⟩) ?_
  intro g1 a1 w1 hF hI
  refine wp_seq ?_
  refine wp_seq ?_
  refine sy [] #[va (.int .i64 6)]
    (fun g2 => [(2, .string ⟨#[]⟩), (3, .int .i64 6)]) (fun _ => []) (fun _ => [])
    hF hI trivial (fun g => ⟨pv, trivial⟩) ?_
  intro g2 a2 w2 hF hI
  refine wp_block ?_
  refine wp_seq ?_
  refine sy [] #[va (.bool false),
      va (.bool false)]
    (fun g3 => [(2, .string ⟨#[]⟩), (3, .int .i64 6), (4, .bool false)]) (fun _ => []) (fun _ => [])
    hF hI trivial (fun g => ⟨pv,
      pv, trivial⟩) ?_
  intro g3 a3 w3 hF hI
  refine wp_cond_false (hF.eval rfl) ?_
  refine wp_seq ?_
  refine sy [] #[va (.bool false),
      va (.bool false)]
    (fun g4 => [(2, .string ⟨#[]⟩), (3, .int .i64 6), (6, .bool false)]) (fun _ => []) (fun _ => [])
    hF hI trivial (fun g => ⟨pv,
      pv, trivial⟩) ?_
  intro g4 a4 w4 hF hI
  refine wp_cond_false (hF.eval rfl) ?_
  refine wp_seq ?_
  refine sy [] #[va (.bool false),
      va (.bool false)]
    (fun g5 => [(2, .string ⟨#[]⟩), (3, .int .i64 6), (8, .bool false)]) (fun _ => []) (fun _ => [])
    hF hI trivial (fun g => ⟨pv,
      pv, trivial⟩) ?_
  intro g5 a5 w5 hF hI
  refine wp_cond_false (hF.eval rfl) ?_
  refine wp_seq ?_
  refine sy [] #[va (.bool false),
      va (.bool false)]
    (fun g6 => [(2, .string ⟨#[]⟩), (3, .int .i64 6), (10, .bool false)]) (fun _ => []) (fun _ => [])
    hF hI trivial (fun g => ⟨pv,
      pv, trivial⟩) ?_
  intro g6 a6 w6 hF hI
  refine wp_cond_false (hF.eval rfl) ?_
  refine wp_seq ?_
  refine sy [] #[va (.bool false),
      va (.bool false)]
    (fun g7 => [(2, .string ⟨#[]⟩), (3, .int .i64 6), (12, .bool false)]) (fun _ => []) (fun _ => [])
    hF hI trivial (fun g => ⟨pv,
      pv, trivial⟩) ?_
  intro g7 a7 w7 hF hI
  refine wp_cond_false (hF.eval rfl) ?_
  refine wp_seq ?_
  refine sy [] #[va (.bool true),
      va (.bool true)]
    (fun g8 => [(2, .string ⟨#[]⟩), (14, .bool true)]) (fun _ => []) (fun _ => [])
    hF hI trivial (fun g => ⟨pv,
      pv, trivial⟩) ?_
  intro g8 a8 w8 hF hI
  refine wp_cond_true (hF.eval rfl) ?_
  refine wp_seq ?_
  refine sy [] #[va (.string (hexS 6))]
    (fun g9 => [(2, .string (hexS 6))]) (fun _ => []) (fun _ => [])
    hF hI trivial (fun g => ⟨pv, trivial⟩) ?_
  intro g9 a9 w9 hF hI
  refine wp_ret ?_
  show bodyPost Tryz.prog Tryz.f288 (Ret w (.string (hexS 6))) .ret _ _
  exact sym_ret rfl hF.df (rv_tmp hF rfl) ⟨rfl, hI.below⟩

theorem prime288_0 {k : Int} (hk : ∀ i : Int, 1 ≤ i → i ≤ 6 → k ≠ i) {w : World} : Calls Tryz.prog 288 #[.int .i64 k] w (Ret w (.string ⟨#[]⟩)) := by
  refine calls_of_wp Tryz.func288 (by rfl : Tryz.f288.body = some _) ?_
  have hF : Fr [(0, .int .i64 k)] 16 _ := Fr.start (args := #[.int .i64 k]) (m := 16) (by simp)
  have hI := Inv.start0 w
  refine wp_seq ?_
  refine sy [] #[va (.string ⟨#[]⟩)]
    (fun g1 => [(0, .int .i64 k), (2, .string ⟨#[]⟩)]) (fun _ => []) (fun _ => [])
    hF hI trivial (fun g => ⟨pv, trivial⟩) ?_
  intro g1 a1 w1 hF hI
  refine wp_seq ?_
  refine wp_seq ?_
  refine sy [] #[va (.int .i64 k)]
    (fun g2 => [(2, .string ⟨#[]⟩), (3, .int .i64 k)]) (fun _ => []) (fun _ => [])
    hF hI trivial (fun g => ⟨pv, trivial⟩) ?_
  intro g2 a2 w2 hF hI
  refine wp_block ?_
  refine wp_seq ?_
  refine sy [] #[va (.bool false),
      va (.bool false)]
    (fun g3 => [(2, .string ⟨#[]⟩), (3, .int .i64 k), (4, .bool false)]) (fun _ => []) (fun _ => [])
    hF hI trivial (fun g => ⟨ov fun w hI hfa => pureU (boolR (k == 1) (by kernel_rfl) (ieq_f (hk 1 (by decide) (by decide)))),
      pv, trivial⟩) ?_
  intro g3 a3 w3 hF hI
  refine wp_cond_false (hF.eval rfl) ?_
  refine wp_seq ?_
  refine sy [] #[va (.bool false),
      va (.bool false)]
    (fun g4 => [(2, .string ⟨#[]⟩), (3, .int .i64 k), (6, .bool false)]) (fun _ => []) (fun _ => [])
    hF hI trivial (fun g => ⟨ov fun w hI hfa => pureU (boolR (k == 2) (by kernel_rfl) (ieq_f (hk 2 (by decide) (by decide)))),
      pv, trivial⟩) ?_
  intro g4 a4 w4 hF hI
  refine wp_cond_false (hF.eval rfl) ?_
  refine wp_seq ?_
  refine sy [] #[va (.bool false),
      va (.bool false)]
    (fun g5 => [(2, .string ⟨#[]⟩), (3, .int .i64 k), (8, .bool false)]) (fun _ => []) (fun _ => [])
    hF hI trivial (fun g => ⟨ov fun w hI hfa => pureU (boolR (k == 3) (by kernel_rfl) (ieq_f (hk 3 (by decide) (by decide)))),
      pv, trivial⟩) ?_
  intro g5 a5 w5 hF hI
  refine wp_cond_false (hF.eval rfl) ?_
  refine wp_seq ?_
  refine sy [] #[va (.bool false),
      va (.bool false)]
    (fun g6 => [(2, .string ⟨#[]⟩), (3, .int .i64 k), (10, .bool false)]) (fun _ => []) (fun _ => [])
    hF hI trivial (fun g => ⟨ov fun w hI hfa => pureU (boolR (k == 4) (by kernel_rfl) (ieq_f (hk 4 (by decide) (by decide)))),
      pv, trivial⟩) ?_
  intro g6 a6 w6 hF hI
  refine wp_cond_false (hF.eval rfl) ?_
  refine wp_seq ?_
  refine sy [] #[va (.bool false),
      va (.bool false)]
    (fun g7 => [(2, .string ⟨#[]⟩), (3, .int .i64 k), (12, .bool false)]) (fun _ => []) (fun _ => [])
    hF hI trivial (fun g => ⟨ov fun w hI hfa => pureU (boolR (k == 5) (by kernel_rfl) (ieq_f (hk 5 (by decide) (by decide)))),
      pv, trivial⟩) ?_
  intro g7 a7 w7 hF hI
  refine wp_cond_false (hF.eval rfl) ?_
  refine wp_seq ?_
  refine sy [] #[va (.bool false),
      va (.bool false)]
    (fun g8 => [(2, .string ⟨#[]⟩), (14, .bool false)]) (fun _ => []) (fun _ => [])
    hF hI trivial (fun g => ⟨ov fun w hI hfa => pureU (boolR (k == 6) (by kernel_rfl) (ieq_f (hk 6 (by decide) (by decide)))),
      pv, trivial⟩) ?_
  intro g8 a8 w8 hF hI
  refine wp_cond_false (hF.eval rfl) ?_
  refine wp_skip ?_
  refine wp_seq ?_
  refine sy [] #[va (.string ⟨#[]⟩)]
    (fun g9 => [(2, .string ⟨#[]⟩)]) (fun _ => []) (fun _ => [])
    hF hI trivial (fun g => ⟨pv, trivial⟩) ?_
  intro g9 a9 w9 hF hI
  refine wp_ret ?_
  show bodyPost Tryz.prog Tryz.f288 (Ret w (.string ⟨#[]⟩)) .ret _ _
  exact sym_ret rfl hF.df (rv_tmp hF rfl) ⟨rfl, hI.below⟩

set_option maxRecDepth 100000 in
theorem new_0 {k : Int} (hk : ∀ i : Int, 1 ≤ i → i ≤ 6 → k ≠ i) {w : World} : Calls Tryz.prog 208 #[.int .i64 k] w (Ret w (.tuple #[.pointer none, .int .i64 1])) := by
  refine calls_of_wp Tryz.func208 (by rfl : Tryz.f208.body = some _) ?_
  have hF : Fr [(0, .int .i64 k)] 17 _ := Fr.start (args := #[.int .i64 k]) (m := 17) (by simp)
  have hI := Inv.start0 w
  refine wp_seq ?_
  refine sy [] #[va (.pointer none),
      va (.int .i64 0)]
    (fun g1 => [(0, .int .i64 k), (2, .pointer none), (3, .int .i64 0)]) (fun _ => []) (fun _ => [])
    hF hI trivial (fun g => ⟨pv,
      pv, trivial⟩) ?_
  intro g1 a1 w1 hF hI
  refine wp_seq ?_
  refine sy [] #[va (.int .i64 k),
      va (.string ⟨#[]⟩),
      va (.string ⟨#[]⟩)]
    (fun g2 => [(2, .pointer none), (3, .int .i64 0), (4, .string ⟨#[]⟩)]) (fun _ => []) (fun _ => [])
    hF hI trivial (fun g => ⟨pv,
      cv fun w hI hfa => prime288_0 hk,
      pv, trivial⟩) ?_
  intro g2 a2 w2 hF hI
  refine wp_seq ?_
  refine wp_seq ?_
  refine sy [] #[va (.string ⟨#[]⟩),
      va (.bool true)]
    (fun g3 => [(2, .pointer none), (3, .int .i64 0), (4, .string ⟨#[]⟩), (8, .bool true)]) (fun _ => []) (fun _ => [])
    hF hI trivial (fun g => ⟨pv,
      pv, trivial⟩) ?_
  intro g3 a3 w3 hF hI
  refine wp_cond_true (hF.eval rfl) ?_
  refine wp_seq ?_
  refine sy [] #[va (.pointer none),
      va (.int .i64 1)]
    (fun g4 => [(2, .pointer none), (3, .int .i64 1), (4, .string ⟨#[]⟩)]) (fun _ => []) (fun _ => [])
    hF hI trivial (fun g => ⟨pv,
      pv, trivial⟩) ?_
  intro g4 a4 w4 hF hI
  refine wp_ret ?_
  show bodyPost Tryz.prog Tryz.f208 (Ret w (.tuple #[.pointer none, .int .i64 1])) .ret _ _
  exact sym_ret2 rfl hF.df (rv_tmp hF rfl) (rv_tmp hF rfl) ⟨rfl, hI.below⟩

set_option maxRecDepth 100000 in
set_option maxHeartbeats 1000000 in
theorem new_1 {w : World} : Calls Tryz.prog 208 #[.int .i64 1] w (NewR w 1) := by
  refine calls_of_wp Tryz.func208 (by rfl : Tryz.f208.body = some _) ?_
  have hF : Fr [(0, .int .i64 1)] 17 _ := Fr.start (args := #[.int .i64 1]) (m := 17) (by simp)
  have hI := Inv.start0 w
  refine wp_seq ?_
  refine sy [] #[va (.pointer none),
      va (.int .i64 0)]
    (fun g1 => [(0, .int .i64 1), (2, .pointer none), (3, .int .i64 0)]) (fun _ => []) (fun _ => [])
    hF hI trivial (fun g => ⟨pv,
      pv, trivial⟩) ?_
  intro g1 a1 w1 hF hI
  refine wp_seq ?_
  refine sy [] #[va (.int .i64 1),
      va (.string (hexS 1)),
      va (.string (hexS 1))]
    (fun g2 => [(2, .pointer none), (3, .int .i64 0), (4, .string (hexS 1))]) (fun _ => []) (fun _ => [])
    hF hI trivial (fun g => ⟨pv,
      cv fun w hI hfa => prime288_1,
      pv, trivial⟩) ?_
  intro g2 a2 w2 hF hI
  refine wp_seq ?_
  refine wp_seq ?_
  refine sy [] #[va (.string (hexS 1)),
      va (.bool false)]
    (fun g3 => [(2, .pointer none), (3, .int .i64 0), (4, .string (hexS 1)), (8, .bool false)]) (fun _ => []) (fun _ => [])
    hF hI trivial (fun g => ⟨pv,
      pv, trivial⟩) ?_
  intro g3 a3 w3 hF hI
  refine wp_cond_false (hF.eval rfl) ?_
  refine wp_skip ?_
  refine wp_seq ?_
  refine sy [] #[va (.string (hexS 1)),
      .ex [] (fun d => .slice (d.o 0) 4 (d.n 0)) (fun _ d => SlR .u64 (digs B64 (pml 1) (prm 1)) (d)),
      .ex [] (fun d => .pointer (some ⟨d.n 0, 0, none⟩)) (fun _ d => fun w => FldB w (d.n 0) (prm 1) (pml 1) (d.n 1)),
      va (.string (hexS 1)),
      va (.int .i64 64),
      va (.int .i64 32),
      .val [2] (fun l => .agg (([pt ((l.getD 0 dat0).n 0)] ++ [Value.int .i64 32])).toArray),
      .new [2] (fun l => (([pt ((l.getD 0 dat0).n 0)] ++ [Value.int .i64 32])).toArray) 308,
      .val [7] (fun l => pt ((l.getD 0 dat0).n 0)),
      va (.int .i64 0)]
    (fun g4 => [(2, pt (g4.γ 7)), (3, .int .i64 0)]) (fun g4 => [((g4.γ 7), ([pt ((g4.δ 2).n 0)] ++ [Value.int .i64 32]), 308)]) (fun g4 => [SlR .u64 (digs B64 (pml 1) (prm 1)) ((g4.δ 1)), fun w => FldB w ((g4.δ 2).n 0) (prm 1) (pml 1) ((g4.δ 2).n 1)])
    hF hI trivial (fun g => ⟨pv,
      cx (fun l d w w1 hg h => SlR.grow0 hg h) fun w hI hfa => hexS_any 1 (by decide) (by decide) _,
      cx (fun l d w w1 hg h => FldB.grow hg rfl h) fun w hI hfa => mont_new_any 1 (by decide) (by decide) (A := ((g.δ 1).o 0)) (cap := ((g.δ 1).n 0)) (hfa 1 _ _ _ (by kernel_rfl) rfl),
      pv,
      pv,
      pv,
      pv,
      nw,
      pv,
      pv, trivial⟩) ?_
  intro g4 a4 w4 hF hI
  refine wp_ret ?_
  show bodyPost Tryz.prog Tryz.f208 (NewR w 1) .ret _ _
  exact sym_ret2 rfl hF.df (rv_tmp hF rfl) (rv_tmp hF rfl) ⟨datN [(g4.γ 7), ((g4.δ 2).n 0), ((g4.δ 2).n 1)], rfl, hI.below, ⟨(hI.kn.at_ _ (List.mem_of_getElem? (i := 0) rfl)).2, hI.fact 1 rfl⟩⟩

set_option maxRecDepth 100000 in
set_option maxHeartbeats 1000000 in
theorem new_2 {w : World} : Calls Tryz.prog 208 #[.int .i64 2] w (NewR w 2) := by
  refine calls_of_wp Tryz.func208 (by rfl : Tryz.f208.body = some _) ?_
  have hF : Fr [(0, .int .i64 2)] 17 _ := Fr.start (args := #[.int .i64 2]) (m := 17) (by simp)
  have hI := Inv.start0 w
  refine wp_seq ?_
  refine sy [] #[va (.pointer none),
      va (.int .i64 0)]
    (fun g1 => [(0, .int .i64 2), (2, .pointer none), (3, .int .i64 0)]) (fun _ => []) (fun _ => [])
    hF hI trivial (fun g => ⟨pv,
      pv, trivial⟩) ?_
  intro g1 a1 w1 hF hI
  refine wp_seq ?_
  refine sy [] #[va (.int .i64 2),
      va (.string (hexS 2)),
      va (.string (hexS 2))]
    (fun g2 => [(2, .pointer none), (3, .int .i64 0), (4, .string (hexS 2))]) (fun _ => []) (fun _ => [])
    hF hI trivial (fun g => ⟨pv,
      cv fun w hI hfa => prime288_2,
      pv, trivial⟩) ?_
  intro g2 a2 w2 hF hI
  refine wp_seq ?_
  refine wp_seq ?_
  refine sy [] #[va (.string (hexS 2)),
      va (.bool false)]
    (fun g3 => [(2, .pointer none), (3, .int .i64 0), (4, .string (hexS 2)), (8, .bool false)]) (fun _ => []) (fun _ => [])
    hF hI trivial (fun g => ⟨pv,
      pv, trivial⟩) ?_
  intro g3 a3 w3 hF hI
  refine wp_cond_false (hF.eval rfl) ?_
  refine wp_skip ?_
  refine wp_seq ?_
  refine sy [] #[va (.string (hexS 2)),
      .ex [] (fun d => .slice (d.o 0) 4 (d.n 0)) (fun _ d => SlR .u64 (digs B64 (pml 2) (prm 2)) (d)),
      .ex [] (fun d => .pointer (some ⟨d.n 0, 0, none⟩)) (fun _ d => fun w => FldB w (d.n 0) (prm 2) (pml 2) (d.n 1)),
      va (.string (hexS 2)),
      va (.int .i64 64),
      va (.int .i64 32),
      .val [2] (fun l => .agg (([pt ((l.getD 0 dat0).n 0)] ++ [Value.int .i64 32])).toArray),
      .new [2] (fun l => (([pt ((l.getD 0 dat0).n 0)] ++ [Value.int .i64 32])).toArray) 308,
      .val [7] (fun l => pt ((l.getD 0 dat0).n 0)),
      va (.int .i64 0)]
    (fun g4 => [(2, pt (g4.γ 7)), (3, .int .i64 0)]) (fun g4 => [((g4.γ 7), ([pt ((g4.δ 2).n 0)] ++ [Value.int .i64 32]), 308)]) (fun g4 => [SlR .u64 (digs B64 (pml 2) (prm 2)) ((g4.δ 1)), fun w => FldB w ((g4.δ 2).n 0) (prm 2) (pml 2) ((g4.δ 2).n 1)])
    hF hI trivial (fun g => ⟨pv,
      cx (fun l d w w1 hg h => SlR.grow0 hg h) fun w hI hfa => hexS_any 2 (by decide) (by decide) _,
      cx (fun l d w w1 hg h => FldB.grow hg rfl h) fun w hI hfa => mont_new_any 2 (by decide) (by decide) (A := ((g.δ 1).o 0)) (cap := ((g.δ 1).n 0)) (hfa 1 _ _ _ (by kernel_rfl) rfl),
      pv,
      pv,
      pv,
      pv,
      nw,
      pv,
      pv, trivial⟩) ?_
  intro g4 a4 w4 hF hI
  refine wp_ret ?_
  show bodyPost Tryz.prog Tryz.f208 (NewR w 2) .ret _ _
  exact sym_ret2 rfl hF.df (rv_tmp hF rfl) (rv_tmp hF rfl) ⟨datN [(g4.γ 7), ((g4.δ 2).n 0), ((g4.δ 2).n 1)], rfl, hI.below, ⟨(hI.kn.at_ _ (List.mem_of_getElem? (i := 0) rfl)).2, hI.fact 1 rfl⟩⟩

set_option maxRecDepth 100000 in
set_option maxHeartbeats 1000000 in
theorem new_3 {w : World} : Calls Tryz.prog 208 #[.int .i64 3] w (NewR w 3) := by
  refine calls_of_wp Tryz.func208 (by rfl : Tryz.f208.body = some _) ?_
  have hF : Fr [(0, .int .i64 3)] 17 _ := Fr.start (args := #[.int .i64 3]) (m := 17) (by simp)
  have hI := Inv.start0 w
  refine wp_seq ?_
  refine sy [] #[va (.pointer none),
      va (.int .i64 0)]
    (fun g1 => [(0, .int .i64 3), (2, .pointer none), (3, .int .i64 0)]) (fun _ => []) (fun _ => [])
    hF hI trivial (fun g => ⟨pv,
      pv, trivial⟩) ?_
  intro g1 a1 w1 hF hI
  refine wp_seq ?_
  refine sy [] #[va (.int .i64 3),
      va (.string (hexS 3)),
      va (.string (hexS 3))]
    (fun g2 => [(2, .pointer none), (3, .int .i64 0), (4, .string (hexS 3))]) (fun _ => []) (fun _ => [])
    hF hI trivial (fun g => ⟨pv,
      cv fun w hI hfa => prime288_3,
      pv, trivial⟩) ?_
  intro g2 a2 w2 hF hI
  refine wp_seq ?_
  refine wp_seq ?_
  refine sy [] #[va (.string (hexS 3)),
      va (.bool false)]
    (fun g3 => [(2, .pointer none), (3, .int .i64 0), (4, .string (hexS 3)), (8, .bool false)]) (fun _ => []) (fun _ => [])
    hF hI trivial (fun g => ⟨pv,
      pv, trivial⟩) ?_
  intro g3 a3 w3 hF hI
  refine wp_cond_false (hF.eval rfl) ?_
  refine wp_skip ?_
  refine wp_seq ?_
  refine sy [] #[va (.string (hexS 3)),
      .ex [] (fun d => .slice (d.o 0) 4 (d.n 0)) (fun _ d => SlR .u64 (digs B64 (pml 3) (prm 3)) (d)),
      .ex [] (fun d => .pointer (some ⟨d.n 0, 0, none⟩)) (fun _ d => fun w => FldB w (d.n 0) (prm 3) (pml 3) (d.n 1)),
      va (.string (hexS 3)),
      va (.int .i64 64),
      va (.int .i64 32),
      .val [2] (fun l => .agg (([pt ((l.getD 0 dat0).n 0)] ++ [Value.int .i64 32])).toArray),
      .new [2] (fun l => (([pt ((l.getD 0 dat0).n 0)] ++ [Value.int .i64 32])).toArray) 308,
      .val [7] (fun l => pt ((l.getD 0 dat0).n 0)),
      va (.int .i64 0)]
    (fun g4 => [(2, pt (g4.γ 7)), (3, .int .i64 0)]) (fun g4 => [((g4.γ 7), ([pt ((g4.δ 2).n 0)] ++ [Value.int .i64 32]), 308)]) (fun g4 => [SlR .u64 (digs B64 (pml 3) (prm 3)) ((g4.δ 1)), fun w => FldB w ((g4.δ 2).n 0) (prm 3) (pml 3) ((g4.δ 2).n 1)])
    hF hI trivial (fun g => ⟨pv,
      cx (fun l d w w1 hg h => SlR.grow0 hg h) fun w hI hfa => hexS_any 3 (by decide) (by decide) _,
      cx (fun l d w w1 hg h => FldB.grow hg rfl h) fun w hI hfa => mont_new_any 3 (by decide) (by decide) (A := ((g.δ 1).o 0)) (cap := ((g.δ 1).n 0)) (hfa 1 _ _ _ (by kernel_rfl) rfl),
      pv,
      pv,
      pv,
      pv,
      nw,
      pv,
      pv, trivial⟩) ?_
  intro g4 a4 w4 hF hI
  refine wp_ret ?_
  show bodyPost Tryz.prog Tryz.f208 (NewR w 3) .ret _ _
  exact sym_ret2 rfl hF.df (rv_tmp hF rfl) (rv_tmp hF rfl) ⟨datN [(g4.γ 7), ((g4.δ 2).n 0), ((g4.δ 2).n 1)], rfl, hI.below, ⟨(hI.kn.at_ _ (List.mem_of_getElem? (i := 0) rfl)).2, hI.fact 1 rfl⟩⟩

set_option maxRecDepth 100000 in
set_option maxHeartbeats 1000000 in
theorem new_4 {w : World} : Calls Tryz.prog 208 #[.int .i64 4] w (NewR w 4) := by
  refine calls_of_wp Tryz.func208 (by rfl : Tryz.f208.body = some _) ?_
  have hF : Fr [(0, .int .i64 4)] 17 _ := Fr.start (args := #[.int .i64 4]) (m := 17) (by simp)
  have hI := Inv.start0 w
  refine wp_seq ?_
  refine sy [] #[va (.pointer none),
      va (.int .i64 0)]
    (fun g1 => [(0, .int .i64 4), (2, .pointer none), (3, .int .i64 0)]) (fun _ => []) (fun _ => [])
    hF hI trivial (fun g => ⟨pv,
      pv, trivial⟩) ?_
  intro g1 a1 w1 hF hI
  refine wp_seq ?_
  refine sy [] #[va (.int .i64 4),
      va (.string (hexS 4)),
      va (.string (hexS 4))]
    (fun g2 => [(2, .pointer none), (3, .int .i64 0), (4, .string (hexS 4))]) (fun _ => []) (fun _ => [])
    hF hI trivial (fun g => ⟨pv,
      cv fun w hI hfa => prime288_4,
      pv, trivial⟩) ?_
  intro g2 a2 w2 hF hI
  refine wp_seq ?_
  refine wp_seq ?_
  refine sy [] #[va (.string (hexS 4)),
      va (.bool false)]
    (fun g3 => [(2, .pointer none), (3, .int .i64 0), (4, .string (hexS 4)), (8, .bool false)]) (fun _ => []) (fun _ => [])
    hF hI trivial (fun g => ⟨pv,
      pv, trivial⟩) ?_
  intro g3 a3 w3 hF hI
  refine wp_cond_false (hF.eval rfl) ?_
  refine wp_skip ?_
  refine wp_seq ?_
  refine sy [] #[va (.string (hexS 4)),
      .ex [] (fun d => .slice (d.o 0) 4 (d.n 0)) (fun _ d => SlR .u64 (digs B64 (pml 4) (prm 4)) (d)),
      .ex [] (fun d => .pointer (some ⟨d.n 0, 0, none⟩)) (fun _ d => fun w => FldB w (d.n 0) (prm 4) (pml 4) (d.n 1)),
      va (.string (hexS 4)),
      va (.int .i64 64),
      va (.int .i64 32),
      .val [2] (fun l => .agg (([pt ((l.getD 0 dat0).n 0)] ++ [Value.int .i64 32])).toArray),
      .new [2] (fun l => (([pt ((l.getD 0 dat0).n 0)] ++ [Value.int .i64 32])).toArray) 308,
      .val [7] (fun l => pt ((l.getD 0 dat0).n 0)),
      va (.int .i64 0)]
    (fun g4 => [(2, pt (g4.γ 7)), (3, .int .i64 0)]) (fun g4 => [((g4.γ 7), ([pt ((g4.δ 2).n 0)] ++ [Value.int .i64 32]), 308)]) (fun g4 => [SlR .u64 (digs B64 (pml 4) (prm 4)) ((g4.δ 1)), fun w => FldB w ((g4.δ 2).n 0) (prm 4) (pml 4) ((g4.δ 2).n 1)])
    hF hI trivial (fun g => ⟨pv,
      cx (fun l d w w1 hg h => SlR.grow0 hg h) fun w hI hfa => hexS_any 4 (by decide) (by decide) _,
      cx (fun l d w w1 hg h => FldB.grow hg rfl h) fun w hI hfa => mont_new_any 4 (by decide) (by decide) (A := ((g.δ 1).o 0)) (cap := ((g.δ 1).n 0)) (hfa 1 _ _ _ (by kernel_rfl) rfl),
      pv,
      pv,
      pv,
      pv,
      nw,
      pv,
      pv, trivial⟩) ?_
  intro g4 a4 w4 hF hI
  refine wp_ret ?_
  show bodyPost Tryz.prog Tryz.f208 (NewR w 4) .ret _ _
  exact sym_ret2 rfl hF.df (rv_tmp hF rfl) (rv_tmp hF rfl) ⟨datN [(g4.γ 7), ((g4.δ 2).n 0), ((g4.δ 2).n 1)], rfl, hI.below, ⟨(hI.kn.at_ _ (List.mem_of_getElem? (i := 0) rfl)).2, hI.fact 1 rfl⟩⟩

set_option maxRecDepth 100000 in
set_option maxHeartbeats 1000000 in
theorem new_5 {w : World} : Calls Tryz.prog 208 #[.int .i64 5] w (NewR w 5) := by
  refine calls_of_wp Tryz.func208 (by rfl : Tryz.f208.body = some _) ?_
  have hF : Fr [(0, .int .i64 5)] 17 _ := Fr.start (args := #[.int .i64 5]) (m := 17) (by simp)
  have hI := Inv.start0 w
  refine wp_seq ?_
  refine sy [] #[va (.pointer none),
      va (.int .i64 0)]
    (fun g1 => [(0, .int .i64 5), (2, .pointer none), (3, .int .i64 0)]) (fun _ => []) (fun _ => [])
    hF hI trivial (fun g => ⟨pv,
      pv, trivial⟩) ?_
  intro g1 a1 w1 hF hI
  refine wp_seq ?_
  refine sy [] #[va (.int .i64 5),
      va (.string (hexS 5)),
      va (.string (hexS 5))]
    (fun g2 => [(2, .pointer none), (3, .int .i64 0), (4, .string (hexS 5))]) (fun _ => []) (fun _ => [])
    hF hI trivial (fun g => ⟨pv,
      cv fun w hI hfa => prime288_5,
      pv, trivial⟩) ?_
  intro g2 a2 w2 hF hI
  refine wp_seq ?_
  refine wp_seq ?_
  refine sy [] #[va (.string (hexS 5)),
      va (.bool false)]
    (fun g3 => [(2, .pointer none), (3, .int .i64 0), (4, .string (hexS 5)), (8, .bool false)]) (fun _ => []) (fun _ => [])
    hF hI trivial (fun g => ⟨pv,
      pv, trivial⟩) ?_
  intro g3 a3 w3 hF hI
  refine wp_cond_false (hF.eval rfl) ?_
  refine wp_skip ?_
  refine wp_seq ?_
  refine sy [] #[va (.string (hexS 5)),
      .ex [] (fun d => .slice (d.o 0) 6 (d.n 0)) (fun _ d => SlR .u64 (digs B64 (pml 5) (prm 5)) (d)),
      .ex [] (fun d => .pointer (some ⟨d.n 0, 0, none⟩)) (fun _ d => fun w => FldB w (d.n 0) (prm 5) (pml 5) (d.n 1)),
      va (.string (hexS 5)),
      va (.int .i64 96),
      va (.int .i64 48),
      .val [2] (fun l => .agg (([pt ((l.getD 0 dat0).n 0)] ++ [Value.int .i64 48])).toArray),
      .new [2] (fun l => (([pt ((l.getD 0 dat0).n 0)] ++ [Value.int .i64 48])).toArray) 308,
      .val [7] (fun l => pt ((l.getD 0 dat0).n 0)),
      va (.int .i64 0)]
    (fun g4 => [(2, pt (g4.γ 7)), (3, .int .i64 0)]) (fun g4 => [((g4.γ 7), ([pt ((g4.δ 2).n 0)] ++ [Value.int .i64 48]), 308)]) (fun g4 => [SlR .u64 (digs B64 (pml 5) (prm 5)) ((g4.δ 1)), fun w => FldB w ((g4.δ 2).n 0) (prm 5) (pml 5) ((g4.δ 2).n 1)])
    hF hI trivial (fun g => ⟨pv,
      cx (fun l d w w1 hg h => SlR.grow0 hg h) fun w hI hfa => hexS_any 5 (by decide) (by decide) _,
      cx (fun l d w w1 hg h => FldB.grow hg rfl h) fun w hI hfa => mont_new_any 5 (by decide) (by decide) (A := ((g.δ 1).o 0)) (cap := ((g.δ 1).n 0)) (hfa 1 _ _ _ (by kernel_rfl) rfl),
      pv,
      pv,
      pv,
      pv,
      nw,
      pv,
      pv, trivial⟩) ?_
  intro g4 a4 w4 hF hI
  refine wp_ret ?_
  show bodyPost Tryz.prog Tryz.f208 (NewR w 5) .ret _ _
  exact sym_ret2 rfl hF.df (rv_tmp hF rfl) (rv_tmp hF rfl) ⟨datN [(g4.γ 7), ((g4.δ 2).n 0), ((g4.δ 2).n 1)], rfl, hI.below, ⟨(hI.kn.at_ _ (List.mem_of_getElem? (i := 0) rfl)).2, hI.fact 1 rfl⟩⟩

set_option maxRecDepth 100000 in
set_option maxHeartbeats 1000000 in
theorem new_6 {w : World} : Calls Tryz.prog 208 #[.int .i64 6] w (NewR w 6) := by
  refine calls_of_wp Tryz.func208 (by rfl : Tryz.f208.body = some _) ?_
  have hF : Fr [(0, .int .i64 6)] 17 _ := Fr.start (args := #[.int .i64 6]) (m := 17) (by simp)
  have hI := Inv.start0 w
  refine wp_seq ?_
  refine sy [] #[va (.pointer none),
      va (.int .i64 0)]
    (fun g1 => [(0, .int .i64 6), (2, .pointer none), (3, .int .i64 0)]) (fun _ => []) (fun _ => [])
    hF hI trivial (fun g => ⟨pv,
      pv, trivial⟩) ?_
  intro g1 a1 w1 hF hI
  refine wp_seq ?_
  refine sy [] #[va (.int .i64 6),
      va (.string (hexS 6)),
      va (.string (hexS 6))]
    (fun g2 => [(2, .pointer none), (3, .int .i64 0), (4, .string (hexS 6))]) (fun _ => []) (fun _ => [])
    hF hI trivial (fun g => ⟨pv,
      cv fun w hI hfa => prime288_6,
      pv, trivial⟩) ?_
  intro g2 a2 w2 hF hI
  refine wp_seq ?_
  refine wp_seq ?_
  refine sy [] #[va (.string (hexS 6)),
      va (.bool false)]
    (fun g3 => [(2, .pointer none), (3, .int .i64 0), (4, .string (hexS 6)), (8, .bool false)]) (fun _ => []) (fun _ => [])
    hF hI trivial (fun g => ⟨pv,
      pv, trivial⟩) ?_
  intro g3 a3 w3 hF hI
  refine wp_cond_false (hF.eval rfl) ?_
  refine wp_skip ?_
  refine wp_seq ?_
  refine sy [] #[va (.string (hexS 6)),
      .ex [] (fun d => .slice (d.o 0) 4 (d.n 0)) (fun _ d => SlR .u64 (digs B64 (pml 6) (prm 6)) (d)),
      .ex [] (fun d => .pointer (some ⟨d.n 0, 0, none⟩)) (fun _ d => fun w => FldB w (d.n 0) (prm 6) (pml 6) (d.n 1)),
      va (.string (hexS 6)),
      va (.int .i64 64),
      va (.int .i64 32),
      .val [2] (fun l => .agg (([pt ((l.getD 0 dat0).n 0)] ++ [Value.int .i64 32])).toArray),
      .new [2] (fun l => (([pt ((l.getD 0 dat0).n 0)] ++ [Value.int .i64 32])).toArray) 308,
      .val [7] (fun l => pt ((l.getD 0 dat0).n 0)),
      va (.int .i64 0)]
    (fun g4 => [(2, pt (g4.γ 7)), (3, .int .i64 0)]) (fun g4 => [((g4.γ 7), ([pt ((g4.δ 2).n 0)] ++ [Value.int .i64 32]), 308)]) (fun g4 => [SlR .u64 (digs B64 (pml 6) (prm 6)) ((g4.δ 1)), fun w => FldB w ((g4.δ 2).n 0) (prm 6) (pml 6) ((g4.δ 2).n 1)])
    hF hI trivial (fun g => ⟨pv,
      cx (fun l d w w1 hg h => SlR.grow0 hg h) fun w hI hfa => hexS_any 6 (by decide) (by decide) _,
      cx (fun l d w w1 hg h => FldB.grow hg rfl h) fun w hI hfa => mont_new_any 6 (by decide) (by decide) (A := ((g.δ 1).o 0)) (cap := ((g.δ 1).n 0)) (hfa 1 _ _ _ (by kernel_rfl) rfl),
      pv,
      pv,
      pv,
      pv,
      nw,
      pv,
      pv, trivial⟩) ?_
  intro g4 a4 w4 hF hI
  refine wp_ret ?_
  show bodyPost Tryz.prog Tryz.f208 (NewR w 6) .ret _ _
  exact sym_ret2 rfl hF.df (rv_tmp hF rfl) (rv_tmp hF rfl) ⟨datN [(g4.γ 7), ((g4.δ 2).n 0), ((g4.δ 2).n 1)], rfl, hI.below, ⟨(hI.kn.at_ _ (List.mem_of_getElem? (i := 0) rfl)).2, hI.fact 1 rfl⟩⟩

end Go.Proofs.YtjokcbjahidckaaGreat
/-! curve.modulus, curve.Curve1: a curve over a prime field. Condition: none. -/
namespace Go.Proofs.YtjokcbjahidckaaGreat
open Go.RowKit

/-- The six limbs of a number. -/
def elC (x : Nat) : List Value := (digs B64 6 x).map fun n : Nat => Value.int .u64 (n : Int)
theorem rd_own {w : World} {b x : Nat} {t : TypeId} (h : w.heap[b]? = some (.cells (elC x).toArray t (0, 0))) : Rd w .u64 (some ⟨b, 0, none⟩) (digs B64 6 x) := by
  have hR : Row w b .u64 t (digs B64 6 x) := h
  exact hR.rd (by rw [length_digs]; decide)
theorem trim_p {A : Option Addr} {w : World} (k : Nat) (h1 : 1 ≤ k) (h6 : k ≤ 6) (h : Rd w .u64 A (digs B64 6 (prm k))) : Calls Tryz.prog 202 #[.slice A 6 6] w (Ret w (.slice A (pml k) (pml k))) := by
  obtain ⟨hlt, -, -, hlen⟩ := prm_lt k h1 h6
  have hm : pml k ≤ 6 := by unfold pml; split <;> omega
  have hv : ofD B64 (digs B64 6 (prm k)) = prm k := by rw [ofD_digs, Nat.mod_eq_of_lt (Nat.lt_of_lt_of_le hlt (Nat.pow_le_pow_right (by decide) hm))]
  have := trim_any A 6 (digs B64 6 (prm k)) w (by rw [length_digs]; decide) h
  rw [trimD_lm (Digs.digs (by decide) _ _), hv, hlen, length_digs] at this
  exact calls_same this
/-- A group's order lies in block o. -/
def OrdB (w : World) (o x : Nat) : Prop := w.heap[o]? = some (.cells (elC x).toArray 24 (0, 0))
theorem OrdB.grow {T : List TypeId} {w w' : World} {o x : Nat} (hg : Grow T w w') (hT : T.contains 24 = false) (h : OrdB w o x) : OrdB w' o x := hg.block o _ h fun C t fr e => by cases e; exact hT
/-- What curve.modulus says of a kind. -/
abbrev ModR (w : World) (k : Nat) : Ending → World → Prop := RetR w (fun d => .slice (some ⟨d.n 0, 0, none⟩) (pml k) (pml k)) (fun d w => OrdB w (d.n 0) (prm k))
theorem new_2_is {w : World} : Calls Tryz.prog 208 #[.int .i64 2] w (NewR w 2) := new_2

/-- A curve's b; its generator. -/
def cbN : Nat → Nat | 1 => 7 | 2 => 3 | _ => 4
def gxN : Nat → Nat | 1 => genN 1 | 2 => 1 | _ => genN 3
def gyN : Nat → Nat | 1 => genN 2 | 2 => 2 | _ => genN 4
/-- A curve.First lies in block fc. -/
structure FirstB (w : World) (fc f q o a v c : Nat) : Prop where
  own : w.heap[fc]? = some (.cells ([Value.pointer (some ⟨f, 0, none⟩)] ++ ([Value.pointer (some ⟨q, 0, none⟩)] ++ ([Value.slice (some ⟨o, 0, none⟩) (pml (2 * c)) (pml (2 * c))] ++ (elC (gxN c) ++ (elC (gyN c) ++ [Value.bool false]))))).toArray 164 (0, 0))
  fld : GB w f a (prm (2 * c - 1)) (pml (2 * c - 1)) v (psz (2 * c - 1))
  grp : w.heap[q]? = some (.cells ([Value.iface 288 (.pointer (some ⟨a, 0, none⟩))] ++ elC (cbN c * B64 ^ pml (2 * c - 1) % prm (2 * c - 1))).toArray 270 (0, 0))
  ord : OrdB w o (prm (2 * c))
theorem FirstB.grow {T : List TypeId} {w w' : World} {fc f q o a v c : Nat} (hg : Grow T w w') (h24 : T.contains 24 = false) (h164 : T.contains 164 = false) (h270 : T.contains 270 = false) (h308 : T.contains 308 = false) (h393 : T.contains 393 = false) (h : FirstB w fc f q o a v c) : FirstB w' fc f q o a v c :=
  ⟨hg.block _ _ h.own fun C t fr e => (by cases e; exact h164), h.fld.grow hg h393 h308, hg.block _ _ h.grp fun C t fr e => (by cases e; exact h270), h.ord.grow hg h24⟩
/-- What curve.Curve1 says of a curve. -/
abbrev FirstR (w : World) (c : Nat) : Ending → World → Prop := RetR w (fun d => .tuple #[.pointer (some ⟨d.n 0, 0, none⟩), .int .i64 0]) (fun d w => FirstB w (d.n 0) (d.n 1) (d.n 2) (d.n 3) (d.n 4) (d.n 5) c)

set_option maxRecDepth 100000 in
theorem modulus_2 {w : World} : Calls Tryz.prog 210 #[.int .i64 2] w (ModR w 2) := by
  refine calls_of_wp Tryz.func210 (by rfl : Tryz.f210.body = some _) ?_
  have hF : Fr [(0, .int .i64 2)] 15 _ := Fr.start (args := #[.int .i64 2]) (m := 15) (by simp)
  have hI := Inv.start0 w
  refine wp_seq ?_
  refine sy [] #[va (.slice none 0 0)]
    (fun g1 => [(0, .int .i64 2), (2, .slice none 0 0)]) (fun _ => []) (fun _ => [])
    hF hI trivial (fun g => ⟨pv, trivial⟩) ?_
  intro g1 a1 w1 hF hI
  refine wp_seq ?_
  refine sy [] #[va (.int .i64 2),
      .ex [] (fun d => .tuple #[.pointer (some ⟨d.n 0, 0, none⟩), .int .i64 0]) (fun _ d => fun w => GB w (d.n 0) (d.n 1) (prm 2) (pml 2) (d.n 2) (psz 2)),
      .val [1] (fun l => .tuple #[pt ((l.getD 0 dat0).n 0), .int .i64 0]),
      .val [1] (fun l => pt ((l.getD 0 dat0).n 0)),
      va (.int .i64 0),
      .val [1] (fun l => pt ((l.getD 0 dat0).n 0)),
      va (.int .i64 0)]
    (fun g2 => [(2, .slice none 0 0), (3, pt ((g2.δ 1).n 0))]) (fun _ => []) (fun g2 => [fun w => GB w ((g2.δ 1).n 0) ((g2.δ 1).n 1) (prm 2) (pml 2) ((g2.δ 1).n 2) (psz 2)])
    hF hI trivial (fun g => ⟨pv,
      cx (fun l d w w1 hg h => GB.grow hg rfl rfl h) fun w hI hfa => new_2,
      pv,
      pv,
      pv,
      pv,
      pv, trivial⟩) ?_
  intro g2 a2 w2 hF hI
  refine wp_seq ?_
  refine sy [24] #[va (pt ((g2.δ 1).n 0)),
      va (elv ((prm 2))),
      .new [] (fun _ => (Z6).toArray) 24,
      .put 2 [] (fun _ => (elC ((prm 2))).toArray)]
    (fun g3 => [(2, .slice none 0 0), (5, pt (g3.γ 2))]) (fun g3 => [((g3.γ 2), elC ((prm 2)), 24)]) (fun _ => [fun w => GB w ((g2.δ 1).n 0) ((g2.δ 1).n 1) (prm 2) (pml 2) ((g2.δ 1).n 2) (psz 2)])
    hF hI ⟨(fun w w1 hg h => GB.grow hg rfl rfl h), trivial⟩ (fun g => ⟨pv,
      cv fun w hI hfa => modulus_any _ _ _ _ _ _ _ (hI.fact 0 rfl).toG,
      nw,
      po (elv ((prm 2))) (Z6) rfl, trivial⟩) ?_
  intro g3 a3 w3 hF hI
  refine wp_seq ?_
  refine sy [] #[va (.slice (some ⟨(g3.γ 2), 0, none⟩) 6 6),
      va (.slice (some ⟨(g3.γ 2), 0, none⟩) 4 4),
      va (.slice (some ⟨(g3.γ 2), 0, none⟩) 4 4)]
    (fun g4 => [(2, .slice (some ⟨(g3.γ 2), 0, none⟩) 4 4)]) (fun _ => [((g3.γ 2), elC ((prm 2)), 24)]) (fun _ => [fun w => GB w ((g2.δ 1).n 0) ((g2.δ 1).n 1) (prm 2) (pml 2) ((g2.δ 1).n 2) (psz 2)])
    hF hI ⟨(fun w w1 hg h => GB.grow hg rfl rfl h), trivial⟩ (fun g => ⟨pv,
      cv fun w hI hfa => trim_p 2 (by decide) (by decide) (rd_own (hI.kn.at_ _ (List.mem_of_getElem? (i := 0) rfl)).2),
      pv, trivial⟩) ?_
  intro g4 a4 w4 hF hI
  refine wp_ret ?_
  show bodyPost Tryz.prog Tryz.f210 (ModR w 2) .ret _ _
  exact sym_ret rfl hF.df (rv_tmp hF rfl) ⟨datN [(g3.γ 2)], rfl, hI.below, (hI.kn.at_ _ (List.mem_of_getElem? (i := 0) rfl)).2⟩

set_option maxRecDepth 100000 in
theorem modulus_4 {w : World} : Calls Tryz.prog 210 #[.int .i64 4] w (ModR w 4) := by
  refine calls_of_wp Tryz.func210 (by rfl : Tryz.f210.body = some _) ?_
  have hF : Fr [(0, .int .i64 4)] 15 _ := Fr.start (args := #[.int .i64 4]) (m := 15) (by simp)
  have hI := Inv.start0 w
  refine wp_seq ?_
  refine sy [] #[va (.slice none 0 0)]
    (fun g1 => [(0, .int .i64 4), (2, .slice none 0 0)]) (fun _ => []) (fun _ => [])
    hF hI trivial (fun g => ⟨pv, trivial⟩) ?_
  intro g1 a1 w1 hF hI
  refine wp_seq ?_
  refine sy [] #[va (.int .i64 4),
      .ex [] (fun d => .tuple #[.pointer (some ⟨d.n 0, 0, none⟩), .int .i64 0]) (fun _ d => fun w => GB w (d.n 0) (d.n 1) (prm 4) (pml 4) (d.n 2) (psz 4)),
      .val [1] (fun l => .tuple #[pt ((l.getD 0 dat0).n 0), .int .i64 0]),
      .val [1] (fun l => pt ((l.getD 0 dat0).n 0)),
      va (.int .i64 0),
      .val [1] (fun l => pt ((l.getD 0 dat0).n 0)),
      va (.int .i64 0)]
    (fun g2 => [(2, .slice none 0 0), (3, pt ((g2.δ 1).n 0))]) (fun _ => []) (fun g2 => [fun w => GB w ((g2.δ 1).n 0) ((g2.δ 1).n 1) (prm 4) (pml 4) ((g2.δ 1).n 2) (psz 4)])
    hF hI trivial (fun g => ⟨pv,
      cx (fun l d w w1 hg h => GB.grow hg rfl rfl h) fun w hI hfa => new_4,
      pv,
      pv,
      pv,
      pv,
      pv, trivial⟩) ?_
  intro g2 a2 w2 hF hI
  refine wp_seq ?_
  refine sy [24] #[va (pt ((g2.δ 1).n 0)),
      va (elv ((prm 4))),
      .new [] (fun _ => (Z6).toArray) 24,
      .put 2 [] (fun _ => (elC ((prm 4))).toArray)]
    (fun g3 => [(2, .slice none 0 0), (5, pt (g3.γ 2))]) (fun g3 => [((g3.γ 2), elC ((prm 4)), 24)]) (fun _ => [fun w => GB w ((g2.δ 1).n 0) ((g2.δ 1).n 1) (prm 4) (pml 4) ((g2.δ 1).n 2) (psz 4)])
    hF hI ⟨(fun w w1 hg h => GB.grow hg rfl rfl h), trivial⟩ (fun g => ⟨pv,
      cv fun w hI hfa => modulus_any _ _ _ _ _ _ _ (hI.fact 0 rfl).toG,
      nw,
      po (elv ((prm 4))) (Z6) rfl, trivial⟩) ?_
  intro g3 a3 w3 hF hI
  refine wp_seq ?_
  refine sy [] #[va (.slice (some ⟨(g3.γ 2), 0, none⟩) 6 6),
      va (.slice (some ⟨(g3.γ 2), 0, none⟩) 4 4),
      va (.slice (some ⟨(g3.γ 2), 0, none⟩) 4 4)]
    (fun g4 => [(2, .slice (some ⟨(g3.γ 2), 0, none⟩) 4 4)]) (fun _ => [((g3.γ 2), elC ((prm 4)), 24)]) (fun _ => [fun w => GB w ((g2.δ 1).n 0) ((g2.δ 1).n 1) (prm 4) (pml 4) ((g2.δ 1).n 2) (psz 4)])
    hF hI ⟨(fun w w1 hg h => GB.grow hg rfl rfl h), trivial⟩ (fun g => ⟨pv,
      cv fun w hI hfa => trim_p 4 (by decide) (by decide) (rd_own (hI.kn.at_ _ (List.mem_of_getElem? (i := 0) rfl)).2),
      pv, trivial⟩) ?_
  intro g4 a4 w4 hF hI
  refine wp_ret ?_
  show bodyPost Tryz.prog Tryz.f210 (ModR w 4) .ret _ _
  exact sym_ret rfl hF.df (rv_tmp hF rfl) ⟨datN [(g3.γ 2)], rfl, hI.below, (hI.kn.at_ _ (List.mem_of_getElem? (i := 0) rfl)).2⟩

set_option maxRecDepth 100000 in
theorem modulus_6 {w : World} : Calls Tryz.prog 210 #[.int .i64 6] w (ModR w 6) := by
  refine calls_of_wp Tryz.func210 (by rfl : Tryz.f210.body = some _) ?_
  have hF : Fr [(0, .int .i64 6)] 15 _ := Fr.start (args := #[.int .i64 6]) (m := 15) (by simp)
  have hI := Inv.start0 w
  refine wp_seq ?_
  refine sy [] #[va (.slice none 0 0)]
    (fun g1 => [(0, .int .i64 6), (2, .slice none 0 0)]) (fun _ => []) (fun _ => [])
    hF hI trivial (fun g => ⟨pv, trivial⟩) ?_
  intro g1 a1 w1 hF hI
  refine wp_seq ?_
  refine sy [] #[va (.int .i64 6),
      .ex [] (fun d => .tuple #[.pointer (some ⟨d.n 0, 0, none⟩), .int .i64 0]) (fun _ d => fun w => GB w (d.n 0) (d.n 1) (prm 6) (pml 6) (d.n 2) (psz 6)),
      .val [1] (fun l => .tuple #[pt ((l.getD 0 dat0).n 0), .int .i64 0]),
      .val [1] (fun l => pt ((l.getD 0 dat0).n 0)),
      va (.int .i64 0),
      .val [1] (fun l => pt ((l.getD 0 dat0).n 0)),
      va (.int .i64 0)]
    (fun g2 => [(2, .slice none 0 0), (3, pt ((g2.δ 1).n 0))]) (fun _ => []) (fun g2 => [fun w => GB w ((g2.δ 1).n 0) ((g2.δ 1).n 1) (prm 6) (pml 6) ((g2.δ 1).n 2) (psz 6)])
    hF hI trivial (fun g => ⟨pv,
      cx (fun l d w w1 hg h => GB.grow hg rfl rfl h) fun w hI hfa => new_6,
      pv,
      pv,
      pv,
      pv,
      pv, trivial⟩) ?_
  intro g2 a2 w2 hF hI
  refine wp_seq ?_
  refine sy [24] #[va (pt ((g2.δ 1).n 0)),
      va (elv ((prm 6))),
      .new [] (fun _ => (Z6).toArray) 24,
      .put 2 [] (fun _ => (elC ((prm 6))).toArray)]
    (fun g3 => [(2, .slice none 0 0), (5, pt (g3.γ 2))]) (fun g3 => [((g3.γ 2), elC ((prm 6)), 24)]) (fun _ => [fun w => GB w ((g2.δ 1).n 0) ((g2.δ 1).n 1) (prm 6) (pml 6) ((g2.δ 1).n 2) (psz 6)])
    hF hI ⟨(fun w w1 hg h => GB.grow hg rfl rfl h), trivial⟩ (fun g => ⟨pv,
      cv fun w hI hfa => modulus_any _ _ _ _ _ _ _ (hI.fact 0 rfl).toG,
      nw,
      po (elv ((prm 6))) (Z6) rfl, trivial⟩) ?_
  intro g3 a3 w3 hF hI
  refine wp_seq ?_
  refine sy [] #[va (.slice (some ⟨(g3.γ 2), 0, none⟩) 6 6),
      va (.slice (some ⟨(g3.γ 2), 0, none⟩) 4 4),
      va (.slice (some ⟨(g3.γ 2), 0, none⟩) 4 4)]
    (fun g4 => [(2, .slice (some ⟨(g3.γ 2), 0, none⟩) 4 4)]) (fun _ => [((g3.γ 2), elC ((prm 6)), 24)]) (fun _ => [fun w => GB w ((g2.δ 1).n 0) ((g2.δ 1).n 1) (prm 6) (pml 6) ((g2.δ 1).n 2) (psz 6)])
    hF hI ⟨(fun w w1 hg h => GB.grow hg rfl rfl h), trivial⟩ (fun g => ⟨pv,
      cv fun w hI hfa => trim_p 6 (by decide) (by decide) (rd_own (hI.kn.at_ _ (List.mem_of_getElem? (i := 0) rfl)).2),
      pv, trivial⟩) ?_
  intro g4 a4 w4 hF hI
  refine wp_ret ?_
  show bodyPost Tryz.prog Tryz.f210 (ModR w 6) .ret _ _
  exact sym_ret rfl hF.df (rv_tmp hF rfl) ⟨datN [(g3.γ 2)], rfl, hI.below, (hI.kn.at_ _ (List.mem_of_getElem? (i := 0) rfl)).2⟩

theorem fin_b1 {w : World} {f a v z : Nat} (h : GB w f a (prm 1) (pml 1) v z) : Calls Tryz.prog 139 #[.pointer (some ⟨f, 0, none⟩), elv (cbN 1)] w (Ret w (elv (cbN 1 * B64 ^ pml 1 % prm 1))) := fin_any _ _ _ _ _ _ _ _ h.toG (by decide)
theorem fin_b2 {w : World} {f a v z : Nat} (h : GB w f a (prm 3) (pml 3) v z) : Calls Tryz.prog 139 #[.pointer (some ⟨f, 0, none⟩), elv (cbN 2)] w (Ret w (elv (cbN 2 * B64 ^ pml 3 % prm 3))) := fin_any _ _ _ _ _ _ _ _ h.toG (by decide)
theorem fin_b3 {w : World} {f a v z : Nat} (h : GB w f a (prm 5) (pml 5) v z) : Calls Tryz.prog 139 #[.pointer (some ⟨f, 0, none⟩), elv (cbN 3)] w (Ret w (elv (cbN 3 * B64 ^ pml 5 % prm 5))) := fin_any _ _ _ _ _ _ _ _ h.toG (by decide)
set_option maxRecDepth 100000 in
set_option maxHeartbeats 4000000 in
theorem curve1_1 {w : World} : Calls Tryz.prog 123 #[.int .i64 1] w (FirstR w 1) := by
  refine calls_of_wp Tryz.func123 (by rfl : Tryz.f123.body = some _) ?_
  have hF : Fr [(0, .int .i64 1)] 52 _ := Fr.start (args := #[.int .i64 1]) (m := 52) (by simp)
  have hI := Inv.start0 w
  refine wp_seq ?_
  refine sy [] #[va (.pointer none),
      va (.int .i64 0)]
    (fun g1 => [(0, .int .i64 1), (2, .pointer none), (3, .int .i64 0)]) (fun _ => []) (fun _ => [])
    hF hI trivial (fun g => ⟨pv,
      pv, trivial⟩) ?_
  intro g1 a1 w1 hF hI
  refine wp_seq ?_
  refine sy [] #[va (.int .i64 0),
      va (.int .i64 0),
      va (.int .u64 0)]
    (fun g2 => [(0, .int .i64 1), (2, .pointer none), (3, .int .i64 0), (4, .int .i64 0), (5, .int .i64 0), (6, .int .u64 0)]) (fun _ => []) (fun _ => [])
    hF hI trivial (fun g => ⟨pv,
      pv,
      pv, trivial⟩) ?_
  intro g2 a2 w2 hF hI
  refine wp_seq ?_
  refine sy [] #[.new [] (fun _ => ((Z6 ++ (Z6 ++ [Value.bool false]))).toArray) 26]
    (fun g3 => [(0, .int .i64 1), (2, .pointer none), (3, .int .i64 0), (4, .int .i64 0), (5, .int .i64 0), (6, .int .u64 0), (7, pt (g3.γ 0))]) (fun g3 => [((g3.γ 0), (Z6 ++ (Z6 ++ [Value.bool false])), 26)]) (fun _ => [])
    hF hI trivial (fun g => ⟨nw, trivial⟩) ?_
  intro g3 a3 w3 hF hI
  refine wp_seq ?_
  refine wp_seq ?_
  refine sy [] #[va (.int .i64 1)]
    (fun g4 => [(2, .pointer none), (3, .int .i64 0), (4, .int .i64 0), (5, .int .i64 0), (6, .int .u64 0), (7, pt (g3.γ 0)), (10, .int .i64 1)]) (fun _ => [((g3.γ 0), (Z6 ++ (Z6 ++ [Value.bool false])), 26)]) (fun _ => [])
    hF hI trivial (fun g => ⟨pv, trivial⟩) ?_
  intro g4 a4 w4 hF hI
  refine wp_block ?_
  refine wp_seq ?_
  refine sy [] #[va (.bool true),
      va (.bool true)]
    (fun g5 => [(2, .pointer none), (3, .int .i64 0), (4, .int .i64 0), (5, .int .i64 0), (6, .int .u64 0), (7, pt (g3.γ 0)), (10, .int .i64 1), (11, .bool true)]) (fun _ => [((g3.γ 0), (Z6 ++ (Z6 ++ [Value.bool false])), 26)]) (fun _ => [])
    hF hI trivial (fun g => ⟨pv,
      pv, trivial⟩) ?_
  intro g5 a5 w5 hF hI
  refine wp_cond_true (hF.eval rfl) ?_
  refine wp_seq ?_
  refine sy [] #[va (.int .i64 1),
      va (.int .i64 2),
      va (.int .u64 7)]
    (fun g6 => [(2, .pointer none), (3, .int .i64 0), (4, .int .i64 1), (5, .int .i64 2), (6, .int .u64 7), (7, pt (g3.γ 0))]) (fun _ => [((g3.γ 0), (Z6 ++ (Z6 ++ [Value.bool false])), 26)]) (fun _ => [])
    hF hI trivial (fun g => ⟨pv,
      pv,
      pv, trivial⟩) ?_
  intro g6 a6 w6 hF hI
  refine wp_region_cut 4 (by kernel_rfl) (by kernel_rfl) ?_
  refine sym_text_store (P := Tryz.prog) [26] #[va (elv ((genN 1))),
      va (elv ((genN 2))),
      va (pt (g3.γ 0))]
    (fun g7 => [(2, .pointer none), (3, .int .i64 0), (4, .int .i64 1), (5, .int .i64 2), (6, .int .u64 7), (7, pt (g3.γ 0)), (14, elv ((genN 2)))]) (fun g7 => [((g3.γ 0), (Z6 ++ (Z6 ++ [Value.bool false])), 26)]) (fun g7 => [((g3.γ 0), (elC ((genN 1)) ++ (Z6 ++ [Value.bool false])), 26)]) (fun g7 => []) 0
    hF hI trivial (by kernel_rfl) (by kernel_rfl) (fun g => ⟨cv fun w hI hfa => gen_any 1 (by decide) (by decide) _,
      cv fun w hI hfa => gen_any 2 (by decide) (by decide) _,
      pv, trivial⟩) (fun g => ⟨by kernel_rfl, by kernel_rfl⟩) (fun g => by kernel_rfl) (fun g => by kernel_rfl) rfl rfl rfl rfl
    (fun g => ⟨(g3.γ 0), 0, (Z6 ++ (Z6 ++ [Value.bool false])), 26, elv ((genN 1)), by kernel_rfl, by kernel_rfl, by kernel_rfl, by kernel_rfl, by kernel_rfl, rfl, by kernel_rfl, by kernel_rfl, by kernel_rfl, by kernel_rfl⟩)
    ?_
  intro g7 a7 w7 hF hI
  show TextOps _ _ _ _ _
  refine sym_text_store (P := Tryz.prog) [26] #[va (.pointer (some ⟨(g3.γ 0), 6, none⟩))]
    (fun g8 => [(2, .pointer none), (3, .int .i64 0), (4, .int .i64 1), (5, .int .i64 2), (6, .int .u64 7), (7, pt (g3.γ 0))]) (fun g8 => [((g3.γ 0), (elC ((genN 1)) ++ (Z6 ++ [Value.bool false])), 26)]) (fun g8 => [((g3.γ 0), (elC ((genN 1)) ++ (elC ((genN 2)) ++ [Value.bool false])), 26)]) (fun g8 => []) 0
    hF hI trivial (by kernel_rfl) (by kernel_rfl) (fun g => ⟨pv, trivial⟩) (fun g => ⟨by kernel_rfl, by kernel_rfl⟩) (fun g => by kernel_rfl) (fun g => by kernel_rfl) rfl rfl rfl rfl
    (fun g => ⟨(g3.γ 0), 6, (elC ((genN 1)) ++ (Z6 ++ [Value.bool false])), 26, elv ((genN 2)), by kernel_rfl, by kernel_rfl, by kernel_rfl, by kernel_rfl, by kernel_rfl, rfl, by kernel_rfl, by kernel_rfl, by kernel_rfl, by kernel_rfl⟩)
    ?_
  intro g8 a8 w8 hF hI
  refine wp_seq ?_
  refine sy [] #[va (.int .i64 1),
      .ex [] (fun d => .tuple #[.pointer (some ⟨d.n 0, 0, none⟩), .int .i64 0]) (fun _ d => fun w => GB w (d.n 0) (d.n 1) (prm 1) (pml 1) (d.n 2) (psz 1)),
      .val [1] (fun l => .tuple #[pt ((l.getD 0 dat0).n 0), .int .i64 0]),
      .val [1] (fun l => pt ((l.getD 0 dat0).n 0)),
      va (.int .i64 0),
      .val [1] (fun l => pt ((l.getD 0 dat0).n 0)),
      va (.int .i64 0)]
    (fun g9 => [(2, .pointer none), (3, .int .i64 0), (5, .int .i64 2), (6, .int .u64 7), (7, pt (g3.γ 0)), (8, pt ((g9.δ 1).n 0)), (9, .int .i64 0)]) (fun _ => [((g3.γ 0), (elC ((genN 1)) ++ (elC ((genN 2)) ++ [Value.bool false])), 26)]) (fun g9 => [fun w => GB w ((g9.δ 1).n 0) ((g9.δ 1).n 1) (prm 1) (pml 1) ((g9.δ 1).n 2) (psz 1)])
    hF hI trivial (fun g => ⟨pv,
      cx (fun l d w w1 hg h => GB.grow hg rfl rfl h) fun w hI hfa => new_1,
      pv,
      pv,
      pv,
      pv,
      pv, trivial⟩) ?_
  intro g9 a9 w9 hF hI
  refine wp_seq ?_
  refine wp_seq ?_
  refine sy [] #[va (.int .i64 0),
      va (.bool false)]
    (fun g10 => [(2, .pointer none), (3, .int .i64 0), (5, .int .i64 2), (6, .int .u64 7), (7, pt (g3.γ 0)), (8, pt ((g9.δ 1).n 0)), (9, .int .i64 0), (35, .bool false)]) (fun _ => [((g3.γ 0), (elC ((genN 1)) ++ (elC ((genN 2)) ++ [Value.bool false])), 26)]) (fun _ => [fun w => GB w ((g9.δ 1).n 0) ((g9.δ 1).n 1) (prm 1) (pml 1) ((g9.δ 1).n 2) (psz 1)])
    hF hI ⟨(fun w w1 hg h => GB.grow hg rfl rfl h), trivial⟩ (fun g => ⟨pv,
      pv, trivial⟩) ?_
  intro g10 a10 w10 hF hI
  refine wp_cond_false (hF.eval rfl) ?_
  refine wp_skip ?_
  refine wp_seq ?_
  refine sy [] #[va (pt ((g9.δ 1).n 0)),
      va (pt ((g9.δ 1).n 0)),
      va (pt (((g9.δ 1).n 1))),
      va (.iface 288 (pt (((g9.δ 1).n 1)))),
      va (pt ((g9.δ 1).n 0)),
      va (.int .u64 7),
      va (.agg (([Value.int .u64 7] ++ ([Value.int .u64 0] ++ ([Value.int .u64 0] ++ ([Value.int .u64 0] ++ ([Value.int .u64 0] ++ [Value.int .u64 0])))))).toArray),
      va (elv ((cbN 1 * B64 ^ pml 1 % prm 1))),
      va (.agg (([Value.iface 288 (pt (((g9.δ 1).n 1)))] ++ elC ((cbN 1 * B64 ^ pml 1 % prm 1)))).toArray),
      .new [] (fun _ => (([Value.iface 288 (pt (((g9.δ 1).n 1)))] ++ elC ((cbN 1 * B64 ^ pml 1 % prm 1)))).toArray) 270,
      va (.int .i64 2),
      .ex [] (fun d => .slice (some ⟨d.n 0, 0, none⟩) 4 4) (fun _ d => fun w => OrdB w (d.n 0) (prm 2)),
      va (.agg ((elC ((genN 1)) ++ (elC ((genN 2)) ++ [Value.bool false]))).toArray),
      .val [9, 11] (fun l => .agg (([pt ((g9.δ 1).n 0)] ++ ([pt ((l.getD 0 dat0).n 0)] ++ ([Value.slice (some ⟨((l.getD 1 dat0).n 0), 0, none⟩) 4 4] ++ (elC ((genN 1)) ++ (elC ((genN 2)) ++ [Value.bool false])))))).toArray),
      .new [9, 11] (fun l => (([pt ((g9.δ 1).n 0)] ++ ([pt ((l.getD 0 dat0).n 0)] ++ ([Value.slice (some ⟨((l.getD 1 dat0).n 0), 0, none⟩) 4 4] ++ (elC ((genN 1)) ++ (elC ((genN 2)) ++ [Value.bool false])))))).toArray) 164,
      .val [14] (fun l => pt ((l.getD 0 dat0).n 0)),
      va (.int .i64 0)]
    (fun g11 => [(2, pt (g11.γ 14)), (3, .int .i64 0)]) (fun g11 => [((g3.γ 0), (elC ((genN 1)) ++ (elC ((genN 2)) ++ [Value.bool false])), 26), ((g11.γ 9), ([Value.iface 288 (pt (((g9.δ 1).n 1)))] ++ elC ((cbN 1 * B64 ^ pml 1 % prm 1))), 270), ((g11.γ 14), ([pt ((g9.δ 1).n 0)] ++ ([pt (g11.γ 9)] ++ ([Value.slice (some ⟨((g11.δ 11).n 0), 0, none⟩) 4 4] ++ (elC ((genN 1)) ++ (elC ((genN 2)) ++ [Value.bool false]))))), 164)]) (fun g11 => [fun w => GB w ((g9.δ 1).n 0) ((g9.δ 1).n 1) (prm 1) (pml 1) ((g9.δ 1).n 2) (psz 1), fun w => OrdB w ((g11.δ 11).n 0) (prm 2)])
    hF hI ⟨(fun w w1 hg h => GB.grow hg rfl rfl h), trivial⟩ (fun g => ⟨pv,
      pv,
      cv fun w hI hfa => calls_same (fmont_any _ _ _ _ _ _ _ (hI.fact 0 rfl).toG),
      pv,
      pv,
      pv,
      pv,
      cv fun w hI hfa => fin_b1 (hI.fact 0 rfl),
      pv,
      nw,
      pv,
      cx (fun l d w w1 hg h => OrdB.grow hg rfl h) fun w hI hfa => modulus_2,
      lk 0 0 rfl rfl,
      pv,
      nw,
      pv,
      pv, trivial⟩) ?_
  intro g11 a11 w11 hF hI
  refine wp_ret ?_
  show bodyPost Tryz.prog Tryz.f123 (FirstR w 1) .ret _ _
  exact sym_ret2 rfl hF.df (rv_tmp hF rfl) (rv_tmp hF rfl) ⟨datN [(g11.γ 14), ((g9.δ 1).n 0), (g11.γ 9), ((g11.δ 11).n 0), ((g9.δ 1).n 1), ((g9.δ 1).n 2)], rfl, hI.below, ⟨((hI.kn.at_ _ (List.mem_of_getElem? (i := 2) rfl)).2).trans (by kernel_rfl), hI.fact 0 rfl, ((hI.kn.at_ _ (List.mem_of_getElem? (i := 1) rfl)).2).trans (by kernel_rfl), hI.fact 1 rfl⟩⟩

set_option maxRecDepth 100000 in
set_option maxHeartbeats 4000000 in
theorem curve1_2 {w : World} : Calls Tryz.prog 123 #[.int .i64 2] w (FirstR w 2) := by
  refine calls_of_wp Tryz.func123 (by rfl : Tryz.f123.body = some _) ?_
  have hF : Fr [(0, .int .i64 2)] 52 _ := Fr.start (args := #[.int .i64 2]) (m := 52) (by simp)
  have hI := Inv.start0 w
  refine wp_seq ?_
  refine sy [] #[va (.pointer none),
      va (.int .i64 0)]
    (fun g1 => [(0, .int .i64 2), (2, .pointer none), (3, .int .i64 0)]) (fun _ => []) (fun _ => [])
    hF hI trivial (fun g => ⟨pv,
      pv, trivial⟩) ?_
  intro g1 a1 w1 hF hI
  refine wp_seq ?_
  refine sy [] #[va (.int .i64 0),
      va (.int .i64 0),
      va (.int .u64 0)]
    (fun g2 => [(0, .int .i64 2), (2, .pointer none), (3, .int .i64 0), (4, .int .i64 0), (5, .int .i64 0), (6, .int .u64 0)]) (fun _ => []) (fun _ => [])
    hF hI trivial (fun g => ⟨pv,
      pv,
      pv, trivial⟩) ?_
  intro g2 a2 w2 hF hI
  refine wp_seq ?_
  refine sy [] #[.new [] (fun _ => ((Z6 ++ (Z6 ++ [Value.bool false]))).toArray) 26]
    (fun g3 => [(0, .int .i64 2), (2, .pointer none), (3, .int .i64 0), (4, .int .i64 0), (5, .int .i64 0), (6, .int .u64 0), (7, pt (g3.γ 0))]) (fun g3 => [((g3.γ 0), (Z6 ++ (Z6 ++ [Value.bool false])), 26)]) (fun _ => [])
    hF hI trivial (fun g => ⟨nw, trivial⟩) ?_
  intro g3 a3 w3 hF hI
  refine wp_seq ?_
  refine wp_seq ?_
  refine sy [] #[va (.int .i64 2)]
    (fun g4 => [(2, .pointer none), (3, .int .i64 0), (4, .int .i64 0), (5, .int .i64 0), (6, .int .u64 0), (7, pt (g3.γ 0)), (10, .int .i64 2)]) (fun _ => [((g3.γ 0), (Z6 ++ (Z6 ++ [Value.bool false])), 26)]) (fun _ => [])
    hF hI trivial (fun g => ⟨pv, trivial⟩) ?_
  intro g4 a4 w4 hF hI
  refine wp_block ?_
  refine wp_seq ?_
  refine sy [] #[va (.bool false),
      va (.bool false)]
    (fun g5 => [(2, .pointer none), (3, .int .i64 0), (4, .int .i64 0), (5, .int .i64 0), (6, .int .u64 0), (7, pt (g3.γ 0)), (10, .int .i64 2), (11, .bool false)]) (fun _ => [((g3.γ 0), (Z6 ++ (Z6 ++ [Value.bool false])), 26)]) (fun _ => [])
    hF hI trivial (fun g => ⟨pv,
      pv, trivial⟩) ?_
  intro g5 a5 w5 hF hI
  refine wp_cond_false (hF.eval rfl) ?_
  refine wp_seq ?_
  refine sy [] #[va (.bool true),
      va (.bool true)]
    (fun g6 => [(2, .pointer none), (3, .int .i64 0), (4, .int .i64 0), (5, .int .i64 0), (6, .int .u64 0), (7, pt (g3.γ 0)), (10, .int .i64 2), (17, .bool true)]) (fun _ => [((g3.γ 0), (Z6 ++ (Z6 ++ [Value.bool false])), 26)]) (fun _ => [])
    hF hI trivial (fun g => ⟨pv,
      pv, trivial⟩) ?_
  intro g6 a6 w6 hF hI
  refine wp_cond_true (hF.eval rfl) ?_
  refine wp_seq ?_
  refine sy [] #[va (.int .i64 3),
      va (.int .i64 4),
      va (.int .u64 3)]
    (fun g7 => [(2, .pointer none), (3, .int .i64 0), (4, .int .i64 3), (5, .int .i64 4), (6, .int .u64 3), (7, pt (g3.γ 0))]) (fun _ => [((g3.γ 0), (Z6 ++ (Z6 ++ [Value.bool false])), 26)]) (fun _ => [])
    hF hI trivial (fun g => ⟨pv,
      pv,
      pv, trivial⟩) ?_
  intro g7 a7 w7 hF hI
  refine wp_region_cut 4 (by kernel_rfl) (by kernel_rfl) ?_
  refine sym_text_store (P := Tryz.prog) [26] #[va (.agg (([Value.int .u64 1] ++ ([Value.int .u64 0] ++ ([Value.int .u64 0] ++ ([Value.int .u64 0] ++ ([Value.int .u64 0] ++ [Value.int .u64 0])))))).toArray),
      va (.agg (([Value.int .u64 2] ++ ([Value.int .u64 0] ++ ([Value.int .u64 0] ++ ([Value.int .u64 0] ++ ([Value.int .u64 0] ++ [Value.int .u64 0])))))).toArray),
      va (pt (g3.γ 0))]
    (fun g8 => [(2, .pointer none), (3, .int .i64 0), (4, .int .i64 3), (5, .int .i64 4), (6, .int .u64 3), (7, pt (g3.γ 0)), (20, .agg (([Value.int .u64 2] ++ ([Value.int .u64 0] ++ ([Value.int .u64 0] ++ ([Value.int .u64 0] ++ ([Value.int .u64 0] ++ [Value.int .u64 0])))))).toArray)]) (fun g8 => [((g3.γ 0), (Z6 ++ (Z6 ++ [Value.bool false])), 26)]) (fun g8 => [((g3.γ 0), ([Value.int .u64 1] ++ ([Value.int .u64 0] ++ ([Value.int .u64 0] ++ ([Value.int .u64 0] ++ ([Value.int .u64 0] ++ ([Value.int .u64 0] ++ (Z6 ++ [Value.bool false]))))))), 26)]) (fun g8 => []) 0
    hF hI trivial (by kernel_rfl) (by kernel_rfl) (fun g => ⟨pv,
      pv,
      pv, trivial⟩) (fun g => ⟨by kernel_rfl, by kernel_rfl⟩) (fun g => by kernel_rfl) (fun g => by kernel_rfl) rfl rfl rfl rfl
    (fun g => ⟨(g3.γ 0), 0, (Z6 ++ (Z6 ++ [Value.bool false])), 26, .agg (([Value.int .u64 1] ++ ([Value.int .u64 0] ++ ([Value.int .u64 0] ++ ([Value.int .u64 0] ++ ([Value.int .u64 0] ++ [Value.int .u64 0])))))).toArray, by kernel_rfl, by kernel_rfl, by kernel_rfl, by kernel_rfl, by kernel_rfl, rfl, by kernel_rfl, by kernel_rfl, by kernel_rfl, by kernel_rfl⟩)
    ?_
  intro g8 a8 w8 hF hI
  show TextOps _ _ _ _ _
  refine sym_text_store (P := Tryz.prog) [26] #[va (.pointer (some ⟨(g3.γ 0), 6, none⟩))]
    (fun g9 => [(2, .pointer none), (3, .int .i64 0), (4, .int .i64 3), (5, .int .i64 4), (6, .int .u64 3), (7, pt (g3.γ 0))]) (fun g9 => [((g3.γ 0), ([Value.int .u64 1] ++ ([Value.int .u64 0] ++ ([Value.int .u64 0] ++ ([Value.int .u64 0] ++ ([Value.int .u64 0] ++ ([Value.int .u64 0] ++ (Z6 ++ [Value.bool false]))))))), 26)]) (fun g9 => [((g3.γ 0), ([Value.int .u64 1] ++ ([Value.int .u64 0] ++ ([Value.int .u64 0] ++ ([Value.int .u64 0] ++ ([Value.int .u64 0] ++ ([Value.int .u64 0] ++ ([Value.int .u64 2] ++ ([Value.int .u64 0] ++ ([Value.int .u64 0] ++ ([Value.int .u64 0] ++ ([Value.int .u64 0] ++ ([Value.int .u64 0] ++ [Value.bool false])))))))))))), 26)]) (fun g9 => []) 0
    hF hI trivial (by kernel_rfl) (by kernel_rfl) (fun g => ⟨pv, trivial⟩) (fun g => ⟨by kernel_rfl, by kernel_rfl⟩) (fun g => by kernel_rfl) (fun g => by kernel_rfl) rfl rfl rfl rfl
    (fun g => ⟨(g3.γ 0), 6, ([Value.int .u64 1] ++ ([Value.int .u64 0] ++ ([Value.int .u64 0] ++ ([Value.int .u64 0] ++ ([Value.int .u64 0] ++ ([Value.int .u64 0] ++ (Z6 ++ [Value.bool false]))))))), 26, .agg (([Value.int .u64 2] ++ ([Value.int .u64 0] ++ ([Value.int .u64 0] ++ ([Value.int .u64 0] ++ ([Value.int .u64 0] ++ [Value.int .u64 0])))))).toArray, by kernel_rfl, by kernel_rfl, by kernel_rfl, by kernel_rfl, by kernel_rfl, rfl, by kernel_rfl, by kernel_rfl, by kernel_rfl, by kernel_rfl⟩)
    ?_
  intro g9 a9 w9 hF hI
  refine wp_seq ?_
  refine sy [] #[va (.int .i64 3),
      .ex [] (fun d => .tuple #[.pointer (some ⟨d.n 0, 0, none⟩), .int .i64 0]) (fun _ d => fun w => GB w (d.n 0) (d.n 1) (prm 3) (pml 3) (d.n 2) (psz 3)),
      .val [1] (fun l => .tuple #[pt ((l.getD 0 dat0).n 0), .int .i64 0]),
      .val [1] (fun l => pt ((l.getD 0 dat0).n 0)),
      va (.int .i64 0),
      .val [1] (fun l => pt ((l.getD 0 dat0).n 0)),
      va (.int .i64 0)]
    (fun g10 => [(2, .pointer none), (3, .int .i64 0), (5, .int .i64 4), (6, .int .u64 3), (7, pt (g3.γ 0)), (8, pt ((g10.δ 1).n 0)), (9, .int .i64 0)]) (fun _ => [((g3.γ 0), ([Value.int .u64 1] ++ ([Value.int .u64 0] ++ ([Value.int .u64 0] ++ ([Value.int .u64 0] ++ ([Value.int .u64 0] ++ ([Value.int .u64 0] ++ ([Value.int .u64 2] ++ ([Value.int .u64 0] ++ ([Value.int .u64 0] ++ ([Value.int .u64 0] ++ ([Value.int .u64 0] ++ ([Value.int .u64 0] ++ [Value.bool false])))))))))))), 26)]) (fun g10 => [fun w => GB w ((g10.δ 1).n 0) ((g10.δ 1).n 1) (prm 3) (pml 3) ((g10.δ 1).n 2) (psz 3)])
    hF hI trivial (fun g => ⟨pv,
      cx (fun l d w w1 hg h => GB.grow hg rfl rfl h) fun w hI hfa => new_3,
      pv,
      pv,
      pv,
      pv,
      pv, trivial⟩) ?_
  intro g10 a10 w10 hF hI
  refine wp_seq ?_
  refine wp_seq ?_
  refine sy [] #[va (.int .i64 0),
      va (.bool false)]
    (fun g11 => [(2, .pointer none), (3, .int .i64 0), (5, .int .i64 4), (6, .int .u64 3), (7, pt (g3.γ 0)), (8, pt ((g10.δ 1).n 0)), (9, .int .i64 0), (35, .bool false)]) (fun _ => [((g3.γ 0), ([Value.int .u64 1] ++ ([Value.int .u64 0] ++ ([Value.int .u64 0] ++ ([Value.int .u64 0] ++ ([Value.int .u64 0] ++ ([Value.int .u64 0] ++ ([Value.int .u64 2] ++ ([Value.int .u64 0] ++ ([Value.int .u64 0] ++ ([Value.int .u64 0] ++ ([Value.int .u64 0] ++ ([Value.int .u64 0] ++ [Value.bool false])))))))))))), 26)]) (fun _ => [fun w => GB w ((g10.δ 1).n 0) ((g10.δ 1).n 1) (prm 3) (pml 3) ((g10.δ 1).n 2) (psz 3)])
    hF hI ⟨(fun w w1 hg h => GB.grow hg rfl rfl h), trivial⟩ (fun g => ⟨pv,
      pv, trivial⟩) ?_
  intro g11 a11 w11 hF hI
  refine wp_cond_false (hF.eval rfl) ?_
  refine wp_skip ?_
  refine wp_seq ?_
  refine sy [] #[va (pt ((g10.δ 1).n 0)),
      va (pt ((g10.δ 1).n 0)),
      va (pt (((g10.δ 1).n 1))),
      va (.iface 288 (pt (((g10.δ 1).n 1)))),
      va (pt ((g10.δ 1).n 0)),
      va (.int .u64 3),
      va (.agg (([Value.int .u64 3] ++ ([Value.int .u64 0] ++ ([Value.int .u64 0] ++ ([Value.int .u64 0] ++ ([Value.int .u64 0] ++ [Value.int .u64 0])))))).toArray),
      va (elv ((cbN 2 * B64 ^ pml 3 % prm 3))),
      va (.agg (([Value.iface 288 (pt (((g10.δ 1).n 1)))] ++ elC ((cbN 2 * B64 ^ pml 3 % prm 3)))).toArray),
      .new [] (fun _ => (([Value.iface 288 (pt (((g10.δ 1).n 1)))] ++ elC ((cbN 2 * B64 ^ pml 3 % prm 3)))).toArray) 270,
      va (.int .i64 4),
      .ex [] (fun d => .slice (some ⟨d.n 0, 0, none⟩) 4 4) (fun _ d => fun w => OrdB w (d.n 0) (prm 4)),
      va (.agg (([Value.int .u64 1] ++ ([Value.int .u64 0] ++ ([Value.int .u64 0] ++ ([Value.int .u64 0] ++ ([Value.int .u64 0] ++ ([Value.int .u64 0] ++ ([Value.int .u64 2] ++ ([Value.int .u64 0] ++ ([Value.int .u64 0] ++ ([Value.int .u64 0] ++ ([Value.int .u64 0] ++ ([Value.int .u64 0] ++ [Value.bool false]))))))))))))).toArray),
      .val [9, 11] (fun l => .agg (([pt ((g10.δ 1).n 0)] ++ ([pt ((l.getD 0 dat0).n 0)] ++ ([Value.slice (some ⟨((l.getD 1 dat0).n 0), 0, none⟩) 4 4] ++ ([Value.int .u64 1] ++ ([Value.int .u64 0] ++ ([Value.int .u64 0] ++ ([Value.int .u64 0] ++ ([Value.int .u64 0] ++ ([Value.int .u64 0] ++ ([Value.int .u64 2] ++ ([Value.int .u64 0] ++ ([Value.int .u64 0] ++ ([Value.int .u64 0] ++ ([Value.int .u64 0] ++ ([Value.int .u64 0] ++ [Value.bool false])))))))))))))))).toArray),
      .new [9, 11] (fun l => (([pt ((g10.δ 1).n 0)] ++ ([pt ((l.getD 0 dat0).n 0)] ++ ([Value.slice (some ⟨((l.getD 1 dat0).n 0), 0, none⟩) 4 4] ++ ([Value.int .u64 1] ++ ([Value.int .u64 0] ++ ([Value.int .u64 0] ++ ([Value.int .u64 0] ++ ([Value.int .u64 0] ++ ([Value.int .u64 0] ++ ([Value.int .u64 2] ++ ([Value.int .u64 0] ++ ([Value.int .u64 0] ++ ([Value.int .u64 0] ++ ([Value.int .u64 0] ++ ([Value.int .u64 0] ++ [Value.bool false])))))))))))))))).toArray) 164,
      .val [14] (fun l => pt ((l.getD 0 dat0).n 0)),
      va (.int .i64 0)]
    (fun g12 => [(2, pt (g12.γ 14)), (3, .int .i64 0)]) (fun g12 => [((g3.γ 0), ([Value.int .u64 1] ++ ([Value.int .u64 0] ++ ([Value.int .u64 0] ++ ([Value.int .u64 0] ++ ([Value.int .u64 0] ++ ([Value.int .u64 0] ++ ([Value.int .u64 2] ++ ([Value.int .u64 0] ++ ([Value.int .u64 0] ++ ([Value.int .u64 0] ++ ([Value.int .u64 0] ++ ([Value.int .u64 0] ++ [Value.bool false])))))))))))), 26), ((g12.γ 9), ([Value.iface 288 (pt (((g10.δ 1).n 1)))] ++ elC ((cbN 2 * B64 ^ pml 3 % prm 3))), 270), ((g12.γ 14), ([pt ((g10.δ 1).n 0)] ++ ([pt (g12.γ 9)] ++ ([Value.slice (some ⟨((g12.δ 11).n 0), 0, none⟩) 4 4] ++ ([Value.int .u64 1] ++ ([Value.int .u64 0] ++ ([Value.int .u64 0] ++ ([Value.int .u64 0] ++ ([Value.int .u64 0] ++ ([Value.int .u64 0] ++ ([Value.int .u64 2] ++ ([Value.int .u64 0] ++ ([Value.int .u64 0] ++ ([Value.int .u64 0] ++ ([Value.int .u64 0] ++ ([Value.int .u64 0] ++ [Value.bool false]))))))))))))))), 164)]) (fun g12 => [fun w => GB w ((g10.δ 1).n 0) ((g10.δ 1).n 1) (prm 3) (pml 3) ((g10.δ 1).n 2) (psz 3), fun w => OrdB w ((g12.δ 11).n 0) (prm 4)])
    hF hI ⟨(fun w w1 hg h => GB.grow hg rfl rfl h), trivial⟩ (fun g => ⟨pv,
      pv,
      cv fun w hI hfa => calls_same (fmont_any _ _ _ _ _ _ _ (hI.fact 0 rfl).toG),
      pv,
      pv,
      pv,
      pv,
      cv fun w hI hfa => fin_b2 (hI.fact 0 rfl),
      pv,
      nw,
      pv,
      cx (fun l d w w1 hg h => OrdB.grow hg rfl h) fun w hI hfa => modulus_4,
      lk 0 0 rfl rfl,
      pv,
      nw,
      pv,
      pv, trivial⟩) ?_
  intro g12 a12 w12 hF hI
  refine wp_ret ?_
  show bodyPost Tryz.prog Tryz.f123 (FirstR w 2) .ret _ _
  exact sym_ret2 rfl hF.df (rv_tmp hF rfl) (rv_tmp hF rfl) ⟨datN [(g12.γ 14), ((g10.δ 1).n 0), (g12.γ 9), ((g12.δ 11).n 0), ((g10.δ 1).n 1), ((g10.δ 1).n 2)], rfl, hI.below, ⟨((hI.kn.at_ _ (List.mem_of_getElem? (i := 2) rfl)).2).trans (by kernel_rfl), hI.fact 0 rfl, ((hI.kn.at_ _ (List.mem_of_getElem? (i := 1) rfl)).2).trans (by kernel_rfl), hI.fact 1 rfl⟩⟩

set_option maxRecDepth 100000 in
set_option maxHeartbeats 4000000 in
theorem curve1_3 {w : World} : Calls Tryz.prog 123 #[.int .i64 3] w (FirstR w 3) := by
  refine calls_of_wp Tryz.func123 (by rfl : Tryz.f123.body = some _) ?_
  have hF : Fr [(0, .int .i64 3)] 52 _ := Fr.start (args := #[.int .i64 3]) (m := 52) (by simp)
  have hI := Inv.start0 w
  refine wp_seq ?_
  refine sy [] #[va (.pointer none),
      va (.int .i64 0)]
    (fun g1 => [(0, .int .i64 3), (2, .pointer none), (3, .int .i64 0)]) (fun _ => []) (fun _ => [])
    hF hI trivial (fun g => ⟨pv,
      pv, trivial⟩) ?_
  intro g1 a1 w1 hF hI
  refine wp_seq ?_
  refine sy [] #[va (.int .i64 0),
      va (.int .i64 0),
      va (.int .u64 0)]
    (fun g2 => [(0, .int .i64 3), (2, .pointer none), (3, .int .i64 0), (4, .int .i64 0), (5, .int .i64 0), (6, .int .u64 0)]) (fun _ => []) (fun _ => [])
    hF hI trivial (fun g => ⟨pv,
      pv,
      pv, trivial⟩) ?_
  intro g2 a2 w2 hF hI
  refine wp_seq ?_
  refine sy [] #[.new [] (fun _ => ((Z6 ++ (Z6 ++ [Value.bool false]))).toArray) 26]
    (fun g3 => [(0, .int .i64 3), (2, .pointer none), (3, .int .i64 0), (4, .int .i64 0), (5, .int .i64 0), (6, .int .u64 0), (7, pt (g3.γ 0))]) (fun g3 => [((g3.γ 0), (Z6 ++ (Z6 ++ [Value.bool false])), 26)]) (fun _ => [])
    hF hI trivial (fun g => ⟨nw, trivial⟩) ?_
  intro g3 a3 w3 hF hI
  refine wp_seq ?_
  refine wp_seq ?_
  refine sy [] #[va (.int .i64 3)]
    (fun g4 => [(2, .pointer none), (3, .int .i64 0), (4, .int .i64 0), (5, .int .i64 0), (6, .int .u64 0), (7, pt (g3.γ 0)), (10, .int .i64 3)]) (fun _ => [((g3.γ 0), (Z6 ++ (Z6 ++ [Value.bool false])), 26)]) (fun _ => [])
    hF hI trivial (fun g => ⟨pv, trivial⟩) ?_
  intro g4 a4 w4 hF hI
  refine wp_block ?_
  refine wp_seq ?_
  refine sy [] #[va (.bool false),
      va (.bool false)]
    (fun g5 => [(2, .pointer none), (3, .int .i64 0), (4, .int .i64 0), (5, .int .i64 0), (6, .int .u64 0), (7, pt (g3.γ 0)), (10, .int .i64 3), (11, .bool false)]) (fun _ => [((g3.γ 0), (Z6 ++ (Z6 ++ [Value.bool false])), 26)]) (fun _ => [])
    hF hI trivial (fun g => ⟨pv,
      pv, trivial⟩) ?_
  intro g5 a5 w5 hF hI
  refine wp_cond_false (hF.eval rfl) ?_
  refine wp_seq ?_
  refine sy [] #[va (.bool false),
      va (.bool false)]
    (fun g6 => [(2, .pointer none), (3, .int .i64 0), (4, .int .i64 0), (5, .int .i64 0), (6, .int .u64 0), (7, pt (g3.γ 0)), (10, .int .i64 3), (17, .bool false)]) (fun _ => [((g3.γ 0), (Z6 ++ (Z6 ++ [Value.bool false])), 26)]) (fun _ => [])
    hF hI trivial (fun g => ⟨pv,
      pv, trivial⟩) ?_
  intro g6 a6 w6 hF hI
  refine wp_cond_false (hF.eval rfl) ?_
  refine wp_seq ?_
  refine sy [] #[va (.bool true),
      va (.bool true)]
    (fun g7 => [(2, .pointer none), (3, .int .i64 0), (4, .int .i64 0), (5, .int .i64 0), (6, .int .u64 0), (7, pt (g3.γ 0)), (23, .bool true)]) (fun _ => [((g3.γ 0), (Z6 ++ (Z6 ++ [Value.bool false])), 26)]) (fun _ => [])
    hF hI trivial (fun g => ⟨pv,
      pv, trivial⟩) ?_
  intro g7 a7 w7 hF hI
  refine wp_cond_true (hF.eval rfl) ?_
  refine wp_seq ?_
  refine sy [] #[va (.int .i64 5),
      va (.int .i64 6),
      va (.int .u64 4)]
    (fun g8 => [(2, .pointer none), (3, .int .i64 0), (4, .int .i64 5), (5, .int .i64 6), (6, .int .u64 4), (7, pt (g3.γ 0))]) (fun _ => [((g3.γ 0), (Z6 ++ (Z6 ++ [Value.bool false])), 26)]) (fun _ => [])
    hF hI trivial (fun g => ⟨pv,
      pv,
      pv, trivial⟩) ?_
  intro g8 a8 w8 hF hI
  refine wp_seq ?_
  refine ss [26] #[va (elv ((genN 3))),
      va (pt (g3.γ 0))]
    (fun g9 => [(2, .pointer none), (3, .int .i64 0), (4, .int .i64 5), (5, .int .i64 6), (6, .int .u64 4), (7, pt (g3.γ 0))]) (fun _ => [((g3.γ 0), (elC ((genN 3)) ++ (Z6 ++ [Value.bool false])), 26)]) (fun _ => []) 0 0
    hF hI trivial (fun g => ⟨cv fun w hI hfa => gen_any 3 (by decide) (by decide) _,
      pv, trivial⟩) rfl rfl rfl ?_
  intro g9 a9 w9 hF hI
  refine ss [26] #[va (elv ((genN 4))),
      va (.pointer (some ⟨(g3.γ 0), 6, none⟩))]
    (fun g10 => [(2, .pointer none), (3, .int .i64 0), (4, .int .i64 5), (5, .int .i64 6), (6, .int .u64 4), (7, pt (g3.γ 0))]) (fun _ => [((g3.γ 0), (elC ((genN 3)) ++ (elC ((genN 4)) ++ [Value.bool false])), 26)]) (fun _ => []) 0 6
    hF hI trivial (fun g => ⟨cv fun w hI hfa => gen_any 4 (by decide) (by decide) _,
      pv, trivial⟩) rfl rfl rfl ?_
  intro g10 a10 w10 hF hI
  refine wp_seq ?_
  refine sy [] #[va (.int .i64 5),
      .ex [] (fun d => .tuple #[.pointer (some ⟨d.n 0, 0, none⟩), .int .i64 0]) (fun _ d => fun w => GB w (d.n 0) (d.n 1) (prm 5) (pml 5) (d.n 2) (psz 5)),
      .val [1] (fun l => .tuple #[pt ((l.getD 0 dat0).n 0), .int .i64 0]),
      .val [1] (fun l => pt ((l.getD 0 dat0).n 0)),
      va (.int .i64 0),
      .val [1] (fun l => pt ((l.getD 0 dat0).n 0)),
      va (.int .i64 0)]
    (fun g11 => [(2, .pointer none), (3, .int .i64 0), (5, .int .i64 6), (6, .int .u64 4), (7, pt (g3.γ 0)), (8, pt ((g11.δ 1).n 0)), (9, .int .i64 0)]) (fun _ => [((g3.γ 0), (elC ((genN 3)) ++ (elC ((genN 4)) ++ [Value.bool false])), 26)]) (fun g11 => [fun w => GB w ((g11.δ 1).n 0) ((g11.δ 1).n 1) (prm 5) (pml 5) ((g11.δ 1).n 2) (psz 5)])
    hF hI trivial (fun g => ⟨pv,
      cx (fun l d w w1 hg h => GB.grow hg rfl rfl h) fun w hI hfa => new_5,
      pv,
      pv,
      pv,
      pv,
      pv, trivial⟩) ?_
  intro g11 a11 w11 hF hI
  refine wp_seq ?_
  refine wp_seq ?_
  refine sy [] #[va (.int .i64 0),
      va (.bool false)]
    (fun g12 => [(2, .pointer none), (3, .int .i64 0), (5, .int .i64 6), (6, .int .u64 4), (7, pt (g3.γ 0)), (8, pt ((g11.δ 1).n 0)), (9, .int .i64 0), (35, .bool false)]) (fun _ => [((g3.γ 0), (elC ((genN 3)) ++ (elC ((genN 4)) ++ [Value.bool false])), 26)]) (fun _ => [fun w => GB w ((g11.δ 1).n 0) ((g11.δ 1).n 1) (prm 5) (pml 5) ((g11.δ 1).n 2) (psz 5)])
    hF hI ⟨(fun w w1 hg h => GB.grow hg rfl rfl h), trivial⟩ (fun g => ⟨pv,
      pv, trivial⟩) ?_
  intro g12 a12 w12 hF hI
  refine wp_cond_false (hF.eval rfl) ?_
  refine wp_skip ?_
  refine wp_seq ?_
  refine sy [] #[va (pt ((g11.δ 1).n 0)),
      va (pt ((g11.δ 1).n 0)),
      va (pt (((g11.δ 1).n 1))),
      va (.iface 288 (pt (((g11.δ 1).n 1)))),
      va (pt ((g11.δ 1).n 0)),
      va (.int .u64 4),
      va (.agg (([Value.int .u64 4] ++ ([Value.int .u64 0] ++ ([Value.int .u64 0] ++ ([Value.int .u64 0] ++ ([Value.int .u64 0] ++ [Value.int .u64 0])))))).toArray),
      va (elv ((cbN 3 * B64 ^ pml 5 % prm 5))),
      va (.agg (([Value.iface 288 (pt (((g11.δ 1).n 1)))] ++ elC ((cbN 3 * B64 ^ pml 5 % prm 5)))).toArray),
      .new [] (fun _ => (([Value.iface 288 (pt (((g11.δ 1).n 1)))] ++ elC ((cbN 3 * B64 ^ pml 5 % prm 5)))).toArray) 270,
      va (.int .i64 6),
      .ex [] (fun d => .slice (some ⟨d.n 0, 0, none⟩) 4 4) (fun _ d => fun w => OrdB w (d.n 0) (prm 6)),
      va (.agg ((elC ((genN 3)) ++ (elC ((genN 4)) ++ [Value.bool false]))).toArray),
      .val [9, 11] (fun l => .agg (([pt ((g11.δ 1).n 0)] ++ ([pt ((l.getD 0 dat0).n 0)] ++ ([Value.slice (some ⟨((l.getD 1 dat0).n 0), 0, none⟩) 4 4] ++ (elC ((genN 3)) ++ (elC ((genN 4)) ++ [Value.bool false])))))).toArray),
      .new [9, 11] (fun l => (([pt ((g11.δ 1).n 0)] ++ ([pt ((l.getD 0 dat0).n 0)] ++ ([Value.slice (some ⟨((l.getD 1 dat0).n 0), 0, none⟩) 4 4] ++ (elC ((genN 3)) ++ (elC ((genN 4)) ++ [Value.bool false])))))).toArray) 164,
      .val [14] (fun l => pt ((l.getD 0 dat0).n 0)),
      va (.int .i64 0)]
    (fun g13 => [(2, pt (g13.γ 14)), (3, .int .i64 0)]) (fun g13 => [((g3.γ 0), (elC ((genN 3)) ++ (elC ((genN 4)) ++ [Value.bool false])), 26), ((g13.γ 9), ([Value.iface 288 (pt (((g11.δ 1).n 1)))] ++ elC ((cbN 3 * B64 ^ pml 5 % prm 5))), 270), ((g13.γ 14), ([pt ((g11.δ 1).n 0)] ++ ([pt (g13.γ 9)] ++ ([Value.slice (some ⟨((g13.δ 11).n 0), 0, none⟩) 4 4] ++ (elC ((genN 3)) ++ (elC ((genN 4)) ++ [Value.bool false]))))), 164)]) (fun g13 => [fun w => GB w ((g11.δ 1).n 0) ((g11.δ 1).n 1) (prm 5) (pml 5) ((g11.δ 1).n 2) (psz 5), fun w => OrdB w ((g13.δ 11).n 0) (prm 6)])
    hF hI ⟨(fun w w1 hg h => GB.grow hg rfl rfl h), trivial⟩ (fun g => ⟨pv,
      pv,
      cv fun w hI hfa => calls_same (fmont_any _ _ _ _ _ _ _ (hI.fact 0 rfl).toG),
      pv,
      pv,
      pv,
      pv,
      cv fun w hI hfa => fin_b3 (hI.fact 0 rfl),
      pv,
      nw,
      pv,
      cx (fun l d w w1 hg h => OrdB.grow hg rfl h) fun w hI hfa => modulus_6,
      lk 0 0 rfl rfl,
      pv,
      nw,
      pv,
      pv, trivial⟩) ?_
  intro g13 a13 w13 hF hI
  refine wp_ret ?_
  show bodyPost Tryz.prog Tryz.f123 (FirstR w 3) .ret _ _
  exact sym_ret2 rfl hF.df (rv_tmp hF rfl) (rv_tmp hF rfl) ⟨datN [(g13.γ 14), ((g11.δ 1).n 0), (g13.γ 9), ((g13.δ 11).n 0), ((g11.δ 1).n 1), ((g11.δ 1).n 2)], rfl, hI.below, ⟨((hI.kn.at_ _ (List.mem_of_getElem? (i := 2) rfl)).2).trans (by kernel_rfl), hI.fact 0 rfl, ((hI.kn.at_ _ (List.mem_of_getElem? (i := 1) rfl)).2).trans (by kernel_rfl), hI.fact 1 rfl⟩⟩

set_option maxRecDepth 100000 in
theorem curve1_0 {k : Int} (hk : ∀ i : Int, 1 ≤ i → i ≤ 3 → k ≠ i) {w : World} : Calls Tryz.prog 123 #[.int .i64 k] w (Ret w (.tuple #[.pointer none, .int .i64 1])) := by
  refine calls_of_wp Tryz.func123 (by rfl : Tryz.f123.body = some _) ?_
  have hF : Fr [(0, .int .i64 k)] 52 _ := Fr.start (args := #[.int .i64 k]) (m := 52) (by simp)
  have hI := Inv.start0 w
  refine wp_seq ?_
  refine sy [] #[va (.pointer none),
      va (.int .i64 0)]
    (fun g1 => [(0, .int .i64 k), (2, .pointer none), (3, .int .i64 0)]) (fun _ => []) (fun _ => [])
    hF hI trivial (fun g => ⟨pv,
      pv, trivial⟩) ?_
  intro g1 a1 w1 hF hI
  refine wp_seq ?_
  refine sy [] #[va (.int .i64 0),
      va (.int .i64 0),
      va (.int .u64 0)]
    (fun g2 => [(0, .int .i64 k), (2, .pointer none), (3, .int .i64 0), (4, .int .i64 0), (5, .int .i64 0), (6, .int .u64 0)]) (fun _ => []) (fun _ => [])
    hF hI trivial (fun g => ⟨pv,
      pv,
      pv, trivial⟩) ?_
  intro g2 a2 w2 hF hI
  refine wp_seq ?_
  refine sy [] #[.new [] (fun _ => ((Z6 ++ (Z6 ++ [Value.bool false]))).toArray) 26]
    (fun g3 => [(0, .int .i64 k), (2, .pointer none), (3, .int .i64 0), (4, .int .i64 0), (5, .int .i64 0), (6, .int .u64 0), (7, pt (g3.γ 0))]) (fun g3 => [((g3.γ 0), (Z6 ++ (Z6 ++ [Value.bool false])), 26)]) (fun _ => [])
    hF hI trivial (fun g => ⟨nw, trivial⟩) ?_
  intro g3 a3 w3 hF hI
  refine wp_seq ?_
  refine wp_seq ?_
  refine sy [] #[va (.int .i64 k)]
    (fun g4 => [(2, .pointer none), (3, .int .i64 0), (4, .int .i64 0), (5, .int .i64 0), (6, .int .u64 0), (7, pt (g3.γ 0)), (10, .int .i64 k)]) (fun _ => [((g3.γ 0), (Z6 ++ (Z6 ++ [Value.bool false])), 26)]) (fun _ => [])
    hF hI trivial (fun g => ⟨pv, trivial⟩) ?_
  intro g4 a4 w4 hF hI
  refine wp_block ?_
  refine wp_seq ?_
  refine sy [] #[va (.bool false),
      va (.bool false)]
    (fun g5 => [(2, .pointer none), (3, .int .i64 0), (4, .int .i64 0), (5, .int .i64 0), (6, .int .u64 0), (7, pt (g3.γ 0)), (10, .int .i64 k), (11, .bool false)]) (fun _ => [((g3.γ 0), (Z6 ++ (Z6 ++ [Value.bool false])), 26)]) (fun _ => [])
    hF hI trivial (fun g => ⟨ov fun w hI hfa => pureU (boolR (k == 1) (by kernel_rfl) (ieq_f (hk 1 (by decide) (by decide)))),
      pv, trivial⟩) ?_
  intro g5 a5 w5 hF hI
  refine wp_cond_false (hF.eval rfl) ?_
  refine wp_seq ?_
  refine sy [] #[va (.bool false),
      va (.bool false)]
    (fun g6 => [(2, .pointer none), (3, .int .i64 0), (4, .int .i64 0), (5, .int .i64 0), (6, .int .u64 0), (7, pt (g3.γ 0)), (10, .int .i64 k), (17, .bool false)]) (fun _ => [((g3.γ 0), (Z6 ++ (Z6 ++ [Value.bool false])), 26)]) (fun _ => [])
    hF hI trivial (fun g => ⟨ov fun w hI hfa => pureU (boolR (k == 2) (by kernel_rfl) (ieq_f (hk 2 (by decide) (by decide)))),
      pv, trivial⟩) ?_
  intro g6 a6 w6 hF hI
  refine wp_cond_false (hF.eval rfl) ?_
  refine wp_seq ?_
  refine sy [] #[va (.bool false),
      va (.bool false)]
    (fun g7 => [(2, .pointer none), (3, .int .i64 0), (4, .int .i64 0), (5, .int .i64 0), (6, .int .u64 0), (7, pt (g3.γ 0)), (23, .bool false)]) (fun _ => [((g3.γ 0), (Z6 ++ (Z6 ++ [Value.bool false])), 26)]) (fun _ => [])
    hF hI trivial (fun g => ⟨ov fun w hI hfa => pureU (boolR (k == 3) (by kernel_rfl) (ieq_f (hk 3 (by decide) (by decide)))),
      pv, trivial⟩) ?_
  intro g7 a7 w7 hF hI
  refine wp_cond_false (hF.eval rfl) ?_
  refine wp_skip ?_
  refine wp_seq ?_
  refine sy [] #[va (.int .i64 0),
      va (.tuple #[.pointer none, .int .i64 1]),
      va (.tuple #[.pointer none, .int .i64 1]),
      va (.pointer none),
      va (.int .i64 1),
      va (.pointer none),
      va (.int .i64 1)]
    (fun g8 => [(2, .pointer none), (3, .int .i64 0), (5, .int .i64 0), (6, .int .u64 0), (7, pt (g3.γ 0)), (8, .pointer none), (9, .int .i64 1)]) (fun _ => [((g3.γ 0), (Z6 ++ (Z6 ++ [Value.bool false])), 26)]) (fun _ => [])
    hF hI trivial (fun g => ⟨pv,
      cv fun w hI hfa => new_0 (k := 0) (by intro i h1 h2 e; omega),
      pv,
      pv,
      pv,
      pv,
      pv, trivial⟩) ?_
  intro g8 a8 w8 hF hI
  refine wp_seq ?_
  refine wp_seq ?_
  refine sy [] #[va (.int .i64 1),
      va (.bool true)]
    (fun g9 => [(2, .pointer none), (3, .int .i64 0), (5, .int .i64 0), (6, .int .u64 0), (7, pt (g3.γ 0)), (8, .pointer none), (9, .int .i64 1), (35, .bool true)]) (fun _ => [((g3.γ 0), (Z6 ++ (Z6 ++ [Value.bool false])), 26)]) (fun _ => [])
    hF hI trivial (fun g => ⟨pv,
      pv, trivial⟩) ?_
  intro g9 a9 w9 hF hI
  refine wp_cond_true (hF.eval rfl) ?_
  refine wp_seq ?_
  refine sy [] #[va (.int .i64 1),
      va (.pointer none),
      va (.int .i64 1)]
    (fun g10 => [(2, .pointer none), (3, .int .i64 1), (5, .int .i64 0), (6, .int .u64 0), (7, pt (g3.γ 0)), (8, .pointer none)]) (fun _ => [((g3.γ 0), (Z6 ++ (Z6 ++ [Value.bool false])), 26)]) (fun _ => [])
    hF hI trivial (fun g => ⟨pv,
      pv,
      pv, trivial⟩) ?_
  intro g10 a10 w10 hF hI
  refine wp_ret ?_
  show bodyPost Tryz.prog Tryz.f123 (Ret w (.tuple #[.pointer none, .int .i64 1])) .ret _ _
  exact sym_ret2 rfl hF.df (rv_tmp hF rfl) (rv_tmp hF rfl) ⟨rfl, hI.below⟩

end Go.Proofs.YtjokcbjahidckaaGreat
/-! A curve's points into Montgomery's form and out of it; is a point on the curve? Conditions: a curve lies in memory, numbers have six limbs. -/
namespace Go.Proofs.YtjokcbjahidckaaGreat
open Go.RowKit

/-- A curve.First over field and group. -/
structure CAt (w : World) (fc f q a p n v z : Nat) (b : Zm p) : Prop where
  c0 : w.cell? ⟨fc, 0, none⟩ = some (.pointer (some ⟨f, 0, none⟩))
  c1 : w.cell? ⟨fc, 1, none⟩ = some (.pointer (some ⟨q, 0, none⟩))
  fld : GAt w f a p n v z
  grp : GrAt w q a p n v b
theorem CAt.lt {w : World} {fc f q a p n v z : Nat} {b : Zm p} (h : CAt w fc f q a p n v z b) : fc < w.heap.size := World.block_lt_of_cell? w _ h.c0
theorem CAt.below {w w1 : World} {fc f q a p n v z : Nat} {b : Zm p} (h : CAt w fc f q a p n v z b) (hb : Below w.heap.size w w1) : CAt w1 fc f q a p n v z b := ⟨cell_below hb h.c0, cell_below hb h.c1, h.fld.below hb, h.grp.below hb⟩
theorem cfin {f a p n v z x : Nat} [Pr p] {w : World} (hx : x < B64 ^ 6) (h : GAt w f a p n v z) : Calls Tryz.prog 139 #[.pointer (some ⟨f, 0, none⟩), elv x] w (Ret w (fe p n (Zm.of x))) := by
  have := fin_any f a p n v z x w h hx
  rw [← me_mod p n x] at this
  exact this
theorem cfout {f a p n v z : Nat} [Pr p] {x : Zm p} {w : World} (h : GAt w f a p n v z) : Calls Tryz.prog 137 #[.pointer (some ⟨f, 0, none⟩), fe p n x] w (Ret w (elv x.val)) := by
  have := fout_any f a p n v z x.val w h
  rw [Nat.mod_eq_of_lt x.lt] at this
  exact this
theorem elv_inj {x y : Nat} (hx : x < B64 ^ 6) (hy : y < B64 ^ 6) : (digs B64 6 x == digs B64 6 y) = decide (x = y) := by
  rw [Bool.eq_iff_iff, beq_iff_eq, decide_eq_true_eq]
  constructor
  · intro e
    have := congrArg (ofD B64) e
    rwa [ofD_digs, ofD_digs, Nat.mod_eq_of_lt hx, Nat.mod_eq_of_lt hy] at this
  · intro e; rw [e]
theorem eqN {ρ : Operand → Value} {o : Oper} {x' y' : Operand} {w : World} {x y : Nat} (h1 : x < B64 ^ 6) (h2 : y < B64 ^ 6) (ho : o.op = .binOp .eql 24 x' y' 24) (hx : ρ x' = elv x) (hy : ρ y' = elv y) :
    (execOp ρ o).run Tryz.prog w = .ok (.value (.bool (decide (x = y)))) w := by
  have hg : (eqGuard .eql 24 x' y' (elv x) (elv y)).run Tryz.prog w = .ok () w := run_eqGuard_agg w .eql 24 x' y' _ _ (by kernel_rfl)
  have hb : (binOp .eql 24 (elv x) (elv y)).run Tryz.prog w = .ok (.bool (digs B64 6 x == digs B64 6 y)) w := by
    have := run_equalIn_ints (P := Tryz.prog) w .u64 9998 24 22 6 Tryz.underlying24 Tryz.underlying22 Tryz.sizeOf22 (digs B64 6 x) (digs B64 6 y) (length_digs ..) (length_digs ..)
    unfold elv cellsOf
    rw [run_eql_struct, this]
    rfl
  rw [elv_inj h1 h2] at hb
  unfold execOp
  simp only [ho, hx, hy, Sem.run_bind, hg, Result.andThen_ok]
  rw [hb]
  rfl
theorem eqNt {ρ : Operand → Value} {o : Oper} {x' y' : Operand} {w : World} {p x : Nat} (h2 : x < B64 ^ 6) (e : x % p = x) (ho : o.op = .binOp .eql 24 x' y' 24) (hx : ρ x' = elv (x % p)) (hy : ρ y' = elv x) :
    (execOp ρ o).run Tryz.prog w = .ok (.value (.bool true)) w := by rw [eqN (Nat.lt_of_le_of_lt (Nat.mod_le _ _) h2) h2 ho hx hy, decide_eq_true e]
theorem eqNf {ρ : Operand → Value} {o : Oper} {x' y' : Operand} {w : World} {p x : Nat} (h2 : x < B64 ^ 6) (e : x % p ≠ x) (ho : o.op = .binOp .eql 24 x' y' 24) (hx : ρ x' = elv (x % p)) (hy : ρ y' = elv x) :
    (execOp ρ o).run Tryz.prog w = .ok (.value (.bool false)) w := by rw [eqN (Nat.lt_of_le_of_lt (Nat.mod_le _ _) h2) h2 ho hx hy, decide_eq_false e]
/-- A point of the machine, as a value; what In, Out, on make of points. -/
def p1 (x y : Nat) (i : Bool) : Value := .agg (elC x ++ (elC y ++ [Value.bool i])).toArray
def gin {p : Nat} [Pr p] (x y : Nat) (i : Bool) : GP (Zm p) := if i then ⟨0, 0, true⟩ else ⟨Zm.of x, Zm.of y, false⟩
def gout {p : Nat} [Pr p] (P : GP (Zm p)) : Value := if P.inf then p1 0 0 true else p1 P.x.val P.y.val false
def p1on {p : Nat} [Pr p] (b : Zm p) (x y : Nat) (i : Bool) : Bool := i || (decide (x % p = x) && decide (y % p = y) && decide (gon b (gin x y i)))

set_option maxRecDepth 100000 in
theorem cin_f {fc f q a p n v z : Nat} [Pr p] {b : Zm p} {x y : Nat} (hx : x < B64 ^ 6) (hy : y < B64 ^ 6) {w : World} (hC : CAt w fc f q a p n v z b) : Calls Tryz.prog 102 #[.pointer (some ⟨fc, 0, none⟩), .agg ((elC x ++ (elC y ++ [Value.bool false]))).toArray] w (Ret w (.agg ((feC p n ((Zm.of x)) ++ (feC p n ((Zm.of y)) ++ [Value.bool false]))).toArray)) := by
  have hcl := hC.lt
  refine calls_of_wp Tryz.func102 (by rfl : Tryz.f102.body = some _) ?_
  have hF : Fr [(0, pt fc), (1, .agg ((elC x ++ (elC y ++ [Value.bool false]))).toArray)] 23 _ := Fr.start (args := #[pt fc, .agg ((elC x ++ (elC y ++ [Value.bool false]))).toArray]) (m := 23) (by simp)
  have hI := Inv.start0 w
  refine wp_seq ?_
  refine sy [] #[.new [] (fun _ => ((elC x ++ (elC y ++ [Value.bool false]))).toArray) 26,
      .new [] (fun _ => ((Z6 ++ (Z6 ++ [Value.bool false]))).toArray) 168]
    (fun g1 => [(0, pt fc), (3, pt (g1.γ 0)), (4, pt (g1.γ 1))]) (fun g1 => [((g1.γ 0), (elC x ++ (elC y ++ [Value.bool false])), 26), ((g1.γ 1), (Z6 ++ (Z6 ++ [Value.bool false])), 168)]) (fun _ => [])
    hF hI trivial (fun g => ⟨nw,
      nw, trivial⟩) ?_
  intro g1 a1 w1 hF hI
  refine wp_seq ?_
  refine wp_seq ?_
  refine sy [] #[va (.pointer (some ⟨(g1.γ 0), 12, none⟩)),
      va (.bool false)]
    (fun g2 => [(0, pt fc), (3, pt (g1.γ 0)), (4, pt (g1.γ 1)), (6, .bool false)]) (fun _ => [((g1.γ 0), (elC x ++ (elC y ++ [Value.bool false])), 26), ((g1.γ 1), (Z6 ++ (Z6 ++ [Value.bool false])), 168)]) (fun _ => [])
    hF hI trivial (fun g => ⟨pv,
      lk1 0 12 rfl rfl, trivial⟩) ?_
  intro g2 a2 w2 hF hI
  refine wp_cond_false (hF.eval rfl) ?_
  refine wp_skip ?_
  refine wp_seq ?_
  refine ss [168] #[va (pt fc),
      va (pt fc),
      va (pt fc),
      va (pt f),
      va (pt (g1.γ 0)),
      va (elv x),
      va (fe p n ((Zm.of x))),
      va (pt fc),
      va (pt fc),
      va (pt fc),
      va (pt f),
      va (.pointer (some ⟨(g1.γ 0), 6, none⟩)),
      va (elv y),
      va (fe p n ((Zm.of y))),
      va (.agg ((feC p n ((Zm.of x)) ++ (feC p n ((Zm.of y)) ++ [Value.bool false]))).toArray)]
    (fun g3 => [(4, pt (g1.γ 1))]) (fun _ => [((g1.γ 0), (elC x ++ (elC y ++ [Value.bool false])), 26), ((g1.γ 1), (feC p n ((Zm.of x)) ++ (feC p n ((Zm.of y)) ++ [Value.bool false])), 168)]) (fun _ => []) 1 0
    hF hI trivial (fun g => ⟨pv,
      pv,
      pv,
      lO1 fc 0 hC.lt hC.c0 rfl,
      pv,
      lk 0 0 rfl rfl,
      cv fun w hI hfa => cfin hx (hC.below hI.below).fld,
      pv,
      pv,
      pv,
      lO1 fc 0 hC.lt hC.c0 rfl,
      pv,
      lk 0 6 rfl rfl,
      cv fun w hI hfa => cfin hy (hC.below hI.below).fld,
      pv, trivial⟩) rfl rfl rfl ?_
  intro g3 a3 w3 hF hI
  refine wp_ret ?_
  show bodyPost Tryz.prog Tryz.f102 (Ret w (.agg ((feC p n ((Zm.of x)) ++ (feC p n ((Zm.of y)) ++ [Value.bool false]))).toArray)) .ret _ _
  exact sym_ret rfl hF.df (rv_cell 1 hF rfl hI rfl Tryz.underlying168 rfl (by kernel_rfl)) ⟨rfl, hI.below⟩
set_option maxRecDepth 100000 in
theorem cin_t {fc f q a p n v z : Nat} [Pr p] {b : Zm p} {x y : Nat} {w : World} (hC : CAt w fc f q a p n v z b) : Calls Tryz.prog 102 #[.pointer (some ⟨fc, 0, none⟩), .agg ((elC x ++ (elC y ++ [Value.bool true]))).toArray] w (Ret w (.agg ((Z6 ++ (Z6 ++ [Value.bool true]))).toArray)) := by
  have hcl := hC.lt
  refine calls_of_wp Tryz.func102 (by rfl : Tryz.f102.body = some _) ?_
  have hF : Fr [(0, pt fc), (1, .agg ((elC x ++ (elC y ++ [Value.bool true]))).toArray)] 23 _ := Fr.start (args := #[pt fc, .agg ((elC x ++ (elC y ++ [Value.bool true]))).toArray]) (m := 23) (by simp)
  have hI := Inv.start0 w
  refine wp_seq ?_
  refine sy [] #[.new [] (fun _ => ((elC x ++ (elC y ++ [Value.bool true]))).toArray) 26,
      .new [] (fun _ => ((Z6 ++ (Z6 ++ [Value.bool false]))).toArray) 168]
    (fun g1 => [(0, pt fc), (3, pt (g1.γ 0)), (4, pt (g1.γ 1))]) (fun g1 => [((g1.γ 0), (elC x ++ (elC y ++ [Value.bool true])), 26), ((g1.γ 1), (Z6 ++ (Z6 ++ [Value.bool false])), 168)]) (fun _ => [])
    hF hI trivial (fun g => ⟨nw,
      nw, trivial⟩) ?_
  intro g1 a1 w1 hF hI
  refine wp_seq ?_
  refine wp_seq ?_
  refine sy [] #[va (.pointer (some ⟨(g1.γ 0), 12, none⟩)),
      va (.bool true)]
    (fun g2 => [(0, pt fc), (3, pt (g1.γ 0)), (4, pt (g1.γ 1)), (6, .bool true)]) (fun _ => [((g1.γ 0), (elC x ++ (elC y ++ [Value.bool true])), 26), ((g1.γ 1), (Z6 ++ (Z6 ++ [Value.bool false])), 168)]) (fun _ => [])
    hF hI trivial (fun g => ⟨pv,
      lk1 0 12 rfl rfl, trivial⟩) ?_
  intro g2 a2 w2 hF hI
  refine wp_cond_true (hF.eval rfl) ?_
  refine wp_seq ?_
  refine ss [168] #[va (.agg ((Z6 ++ (Z6 ++ [Value.bool true]))).toArray)]
    (fun g3 => [(0, pt fc), (3, pt (g1.γ 0)), (4, pt (g1.γ 1))]) (fun _ => [((g1.γ 0), (elC x ++ (elC y ++ [Value.bool true])), 26), ((g1.γ 1), (Z6 ++ (Z6 ++ [Value.bool true])), 168)]) (fun _ => []) 1 0
    hF hI trivial (fun g => ⟨pv, trivial⟩) rfl rfl rfl ?_
  intro g3 a3 w3 hF hI
  refine wp_ret ?_
  show bodyPost Tryz.prog Tryz.f102 (Ret w (.agg ((Z6 ++ (Z6 ++ [Value.bool true]))).toArray)) .ret _ _
  exact sym_ret rfl hF.df (rv_cell 1 hF rfl hI rfl Tryz.underlying168 rfl (by kernel_rfl)) ⟨rfl, hI.below⟩
theorem cin_any {fc f q a p n v z : Nat} [Pr p] {b : Zm p} {x y : Nat} (hx : x < B64 ^ 6) (hy : y < B64 ^ 6) {i : Bool} {w : World} (hC : CAt w fc f q a p n v z b) : Calls Tryz.prog 102 #[.pointer (some ⟨fc, 0, none⟩), p1 x y i] w (Ret w (fp p n (gin x y i))) := by
  cases i with
  | false => exact cin_f hx hy hC
  | true =>
    have := cin_t (x := x) (y := y) hC
    unfold fp gin
    rw [if_pos rfl, feC_zero]
    exact this
set_option maxRecDepth 100000 in
theorem cout_f {fc f q a p n v z : Nat} [Pr p] {b : Zm p} {P : GP (Zm p)} {w : World} (hC : CAt w fc f q a p n v z b) : Calls Tryz.prog 100 #[.pointer (some ⟨fc, 0, none⟩), .agg ((feC p n P.x ++ (feC p n P.y ++ [Value.bool false]))).toArray] w (Ret w (.agg ((elC P.x.val ++ (elC P.y.val ++ [Value.bool false]))).toArray)) := by
  have hcl := hC.lt
  refine calls_of_wp Tryz.func100 (by rfl : Tryz.f100.body = some _) ?_
  have hF : Fr [(0, pt fc), (1, .agg ((feC p n P.x ++ (feC p n P.y ++ [Value.bool false]))).toArray)] 23 _ := Fr.start (args := #[pt fc, .agg ((feC p n P.x ++ (feC p n P.y ++ [Value.bool false]))).toArray]) (m := 23) (by simp)
  have hI := Inv.start0 w
  refine wp_seq ?_
  refine sy [] #[.new [] (fun _ => ((feC p n P.x ++ (feC p n P.y ++ [Value.bool false]))).toArray) 168,
      .new [] (fun _ => ((Z6 ++ (Z6 ++ [Value.bool false]))).toArray) 26]
    (fun g1 => [(0, pt fc), (3, pt (g1.γ 0)), (4, pt (g1.γ 1))]) (fun g1 => [((g1.γ 0), (feC p n P.x ++ (feC p n P.y ++ [Value.bool false])), 168), ((g1.γ 1), (Z6 ++ (Z6 ++ [Value.bool false])), 26)]) (fun _ => [])
    hF hI trivial (fun g => ⟨nw,
      nw, trivial⟩) ?_
  intro g1 a1 w1 hF hI
  refine wp_seq ?_
  refine wp_seq ?_
  refine sy [] #[va (.pointer (some ⟨(g1.γ 0), 12, none⟩)),
      va (.bool false)]
    (fun g2 => [(0, pt fc), (3, pt (g1.γ 0)), (4, pt (g1.γ 1)), (6, .bool false)]) (fun _ => [((g1.γ 0), (feC p n P.x ++ (feC p n P.y ++ [Value.bool false])), 168), ((g1.γ 1), (Z6 ++ (Z6 ++ [Value.bool false])), 26)]) (fun _ => [])
    hF hI trivial (fun g => ⟨pv,
      lk1 0 12 rfl rfl, trivial⟩) ?_
  intro g2 a2 w2 hF hI
  refine wp_cond_false (hF.eval rfl) ?_
  refine wp_skip ?_
  refine wp_seq ?_
  refine ss [26] #[va (pt fc),
      va (pt fc),
      va (pt fc),
      va (pt f),
      va (pt (g1.γ 0)),
      va (fe p n P.x),
      va (elv P.x.val),
      va (pt fc),
      va (pt fc),
      va (pt fc),
      va (pt f),
      va (.pointer (some ⟨(g1.γ 0), 6, none⟩)),
      va (fe p n P.y),
      va (elv P.y.val),
      va (.agg ((elC P.x.val ++ (elC P.y.val ++ [Value.bool false]))).toArray)]
    (fun g3 => [(4, pt (g1.γ 1))]) (fun _ => [((g1.γ 0), (feC p n P.x ++ (feC p n P.y ++ [Value.bool false])), 168), ((g1.γ 1), (elC P.x.val ++ (elC P.y.val ++ [Value.bool false])), 26)]) (fun _ => []) 1 0
    hF hI trivial (fun g => ⟨pv,
      pv,
      pv,
      lO1 fc 0 hC.lt hC.c0 rfl,
      pv,
      lk 0 0 rfl rfl,
      cv fun w hI hfa => cfout (hC.below hI.below).fld,
      pv,
      pv,
      pv,
      lO1 fc 0 hC.lt hC.c0 rfl,
      pv,
      lk 0 6 rfl rfl,
      cv fun w hI hfa => cfout (hC.below hI.below).fld,
      pv, trivial⟩) rfl rfl rfl ?_
  intro g3 a3 w3 hF hI
  refine wp_ret ?_
  show bodyPost Tryz.prog Tryz.f100 (Ret w (.agg ((elC P.x.val ++ (elC P.y.val ++ [Value.bool false]))).toArray)) .ret _ _
  exact sym_ret rfl hF.df (rv_cell 1 hF rfl hI rfl Tryz.underlying26 rfl (by kernel_rfl)) ⟨rfl, hI.below⟩
set_option maxRecDepth 100000 in
theorem cout_t {fc f q a p n v z : Nat} [Pr p] {b : Zm p} {P : GP (Zm p)} {w : World} (hC : CAt w fc f q a p n v z b) : Calls Tryz.prog 100 #[.pointer (some ⟨fc, 0, none⟩), .agg ((feC p n P.x ++ (feC p n P.y ++ [Value.bool true]))).toArray] w (Ret w (.agg ((Z6 ++ (Z6 ++ [Value.bool true]))).toArray)) := by
  have hcl := hC.lt
  refine calls_of_wp Tryz.func100 (by rfl : Tryz.f100.body = some _) ?_
  have hF : Fr [(0, pt fc), (1, .agg ((feC p n P.x ++ (feC p n P.y ++ [Value.bool true]))).toArray)] 23 _ := Fr.start (args := #[pt fc, .agg ((feC p n P.x ++ (feC p n P.y ++ [Value.bool true]))).toArray]) (m := 23) (by simp)
  have hI := Inv.start0 w
  refine wp_seq ?_
  refine sy [] #[.new [] (fun _ => ((feC p n P.x ++ (feC p n P.y ++ [Value.bool true]))).toArray) 168,
      .new [] (fun _ => ((Z6 ++ (Z6 ++ [Value.bool false]))).toArray) 26]
    (fun g1 => [(0, pt fc), (3, pt (g1.γ 0)), (4, pt (g1.γ 1))]) (fun g1 => [((g1.γ 0), (feC p n P.x ++ (feC p n P.y ++ [Value.bool true])), 168), ((g1.γ 1), (Z6 ++ (Z6 ++ [Value.bool false])), 26)]) (fun _ => [])
    hF hI trivial (fun g => ⟨nw,
      nw, trivial⟩) ?_
  intro g1 a1 w1 hF hI
  refine wp_seq ?_
  refine wp_seq ?_
  refine sy [] #[va (.pointer (some ⟨(g1.γ 0), 12, none⟩)),
      va (.bool true)]
    (fun g2 => [(0, pt fc), (3, pt (g1.γ 0)), (4, pt (g1.γ 1)), (6, .bool true)]) (fun _ => [((g1.γ 0), (feC p n P.x ++ (feC p n P.y ++ [Value.bool true])), 168), ((g1.γ 1), (Z6 ++ (Z6 ++ [Value.bool false])), 26)]) (fun _ => [])
    hF hI trivial (fun g => ⟨pv,
      lk1 0 12 rfl rfl, trivial⟩) ?_
  intro g2 a2 w2 hF hI
  refine wp_cond_true (hF.eval rfl) ?_
  refine wp_seq ?_
  refine ss [26] #[va (.agg ((Z6 ++ (Z6 ++ [Value.bool true]))).toArray)]
    (fun g3 => [(0, pt fc), (3, pt (g1.γ 0)), (4, pt (g1.γ 1))]) (fun _ => [((g1.γ 0), (feC p n P.x ++ (feC p n P.y ++ [Value.bool true])), 168), ((g1.γ 1), (Z6 ++ (Z6 ++ [Value.bool true])), 26)]) (fun _ => []) 1 0
    hF hI trivial (fun g => ⟨pv, trivial⟩) rfl rfl rfl ?_
  intro g3 a3 w3 hF hI
  refine wp_ret ?_
  show bodyPost Tryz.prog Tryz.f100 (Ret w (.agg ((Z6 ++ (Z6 ++ [Value.bool true]))).toArray)) .ret _ _
  exact sym_ret rfl hF.df (rv_cell 1 hF rfl hI rfl Tryz.underlying26 rfl (by kernel_rfl)) ⟨rfl, hI.below⟩
theorem cout_any {fc f q a p n v z : Nat} [Pr p] {b : Zm p} {P : GP (Zm p)} {w : World} (hC : CAt w fc f q a p n v z b) : Calls Tryz.prog 100 #[.pointer (some ⟨fc, 0, none⟩), fp p n P] w (Ret w (gout P)) := by
  unfold gout fp
  cases hi : P.inf with
  | false => exact cout_f hC
  | true => exact cout_t hC
set_option maxRecDepth 100000 in
theorem pon_t {fc f q a p n v z : Nat} [Pr p] {b : Zm p} {x y : Nat} (hx : x < B64 ^ 6) (hy : y < B64 ^ 6) {w : World} (hC : CAt w fc f q a p n v z b) : Calls Tryz.prog 125 #[.pointer (some ⟨fc, 0, none⟩), .agg ((elC x ++ (elC y ++ [Value.bool true]))).toArray] w (Ret w (.bool true)) := by
  have hcl := hC.lt
  refine calls_of_wp Tryz.func125 (by rfl : Tryz.f125.body = some _) ?_
  have hF : Fr [(0, pt fc), (1, .agg ((elC x ++ (elC y ++ [Value.bool true]))).toArray)] 41 _ := Fr.start (args := #[pt fc, .agg ((elC x ++ (elC y ++ [Value.bool true]))).toArray]) (m := 41) (by simp)
  have hI := Inv.start0 w
  refine wp_seq ?_
  refine sy [] #[.new [] (fun _ => ((elC x ++ (elC y ++ [Value.bool true]))).toArray) 26,
      va (.bool false)]
    (fun g1 => [(0, pt fc), (3, pt (g1.γ 0)), (4, .bool false)]) (fun g1 => [((g1.γ 0), (elC x ++ (elC y ++ [Value.bool true])), 26)]) (fun _ => [])
    hF hI trivial (fun g => ⟨nw,
      pv, trivial⟩) ?_
  intro g1 a1 w1 hF hI
  refine wp_seq ?_
  refine sy [] #[va (.pointer (some ⟨(g1.γ 0), 12, none⟩)),
      va (.bool true),
      va (.bool true),
      .off,
      .off,
      .off,
      .off,
      .off,
      .off,
      .off,
      .off,
      .off,
      .off,
      .off,
      .off,
      .off,
      .off,
      .off,
      .off,
      .off,
      .off,
      .off,
      .off,
      .off,
      .off,
      .off,
      .off,
      .off,
      .off,
      .off,
      .off,
      .off,
      .off,
      .off,
      .off,
      va (.bool true),
      va (.bool true)]
    (fun g2 => [(4, .bool true)]) (fun _ => [((g1.γ 0), (elC x ++ (elC y ++ [Value.bool true])), 26)]) (fun _ => [])
    hF hI trivial (fun g => ⟨pv,
      lk1 0 12 rfl rfl,
      pv,
      offV,
      offV,
      offV,
      offV,
      offV,
      offV,
      offV,
      offV,
      offV,
      offV,
      offV,
      offV,
      offV,
      offV,
      offV,
      offV,
      offV,
      offV,
      offV,
      offV,
      offV,
      offV,
      offV,
      offV,
      offV,
      offV,
      offV,
      offV,
      offV,
      offV,
      offV,
      offV,
      pv,
      pv, trivial⟩) ?_
  intro g2 a2 w2 hF hI
  refine wp_ret ?_
  show bodyPost Tryz.prog Tryz.f125 (Ret w (.bool true)) .ret _ _
  exact sym_ret rfl hF.df (rv_tmp hF rfl) ⟨rfl, hI.below⟩
set_option maxRecDepth 100000 in
theorem pon_nx {fc f q a p n v z : Nat} [Pr p] {b : Zm p} {x y : Nat} (hx : x < B64 ^ 6) (hy : y < B64 ^ 6) (e1 : x % p ≠ x) {w : World} (hC : CAt w fc f q a p n v z b) : Calls Tryz.prog 125 #[.pointer (some ⟨fc, 0, none⟩), .agg ((elC x ++ (elC y ++ [Value.bool false]))).toArray] w (Ret w (.bool false)) := by
  have hcl := hC.lt
  refine calls_of_wp Tryz.func125 (by rfl : Tryz.f125.body = some _) ?_
  have hF : Fr [(0, pt fc), (1, .agg ((elC x ++ (elC y ++ [Value.bool false]))).toArray)] 41 _ := Fr.start (args := #[pt fc, .agg ((elC x ++ (elC y ++ [Value.bool false]))).toArray]) (m := 41) (by simp)
  have hI := Inv.start0 w
  refine wp_seq ?_
  refine sy [] #[.new [] (fun _ => ((elC x ++ (elC y ++ [Value.bool false]))).toArray) 26,
      va (.bool false)]
    (fun g1 => [(0, pt fc), (3, pt (g1.γ 0)), (4, .bool false)]) (fun g1 => [((g1.γ 0), (elC x ++ (elC y ++ [Value.bool false])), 26)]) (fun _ => [])
    hF hI trivial (fun g => ⟨nw,
      pv, trivial⟩) ?_
  intro g1 a1 w1 hF hI
  refine wp_seq ?_
  refine sy [] #[va (.pointer (some ⟨(g1.γ 0), 12, none⟩)),
      va (.bool false),
      va (.bool false),
      va (pt fc),
      va (pt fc),
      va (pt fc),
      va (pt f),
      va (pt (g1.γ 0)),
      va (elv x),
      va (elv ((x % p))),
      va (pt (g1.γ 0)),
      va (elv x),
      va (.bool false),
      va (.bool false),
      .off,
      .off,
      .off,
      .off,
      .off,
      .off,
      .off,
      .off,
      .off,
      .off,
      va (.bool false),
      va (.bool false),
      .off,
      .off,
      .off,
      .off,
      .off,
      .off,
      .off,
      .off,
      va (.bool false),
      va (.bool false),
      va (.bool false)]
    (fun g2 => [(4, .bool false)]) (fun _ => [((g1.γ 0), (elC x ++ (elC y ++ [Value.bool false])), 26)]) (fun _ => [])
    hF hI trivial (fun g => ⟨pv,
      lk1 0 12 rfl rfl,
      pv,
      pv,
      pv,
      pv,
      lO1 fc 0 hC.lt hC.c0 rfl,
      pv,
      lk 0 0 rfl rfl,
      cv fun w hI hfa => reduce_any _ _ _ _ _ _ _ _ (hC.below hI.below).fld hx,
      pv,
      lk 0 0 rfl rfl,
      ov fun w hI hfa => pureU (eqNf hx e1 rfl (by kernel_rfl) (by kernel_rfl)),
      pv,
      offV,
      offV,
      offV,
      offV,
      offV,
      offV,
      offV,
      offV,
      offV,
      offV,
      pv,
      pv,
      offV,
      offV,
      offV,
      offV,
      offV,
      offV,
      offV,
      offV,
      pv,
      pv,
      pv, trivial⟩) ?_
  intro g2 a2 w2 hF hI
  refine wp_ret ?_
  show bodyPost Tryz.prog Tryz.f125 (Ret w (.bool false)) .ret _ _
  exact sym_ret rfl hF.df (rv_tmp hF rfl) ⟨rfl, hI.below⟩
set_option maxRecDepth 100000 in
theorem pon_ny {fc f q a p n v z : Nat} [Pr p] {b : Zm p} {x y : Nat} (hx : x < B64 ^ 6) (hy : y < B64 ^ 6) (e1 : x % p = x) (e2 : y % p ≠ y) {w : World} (hC : CAt w fc f q a p n v z b) : Calls Tryz.prog 125 #[.pointer (some ⟨fc, 0, none⟩), .agg ((elC x ++ (elC y ++ [Value.bool false]))).toArray] w (Ret w (.bool false)) := by
  have hcl := hC.lt
  refine calls_of_wp Tryz.func125 (by rfl : Tryz.f125.body = some _) ?_
  have hF : Fr [(0, pt fc), (1, .agg ((elC x ++ (elC y ++ [Value.bool false]))).toArray)] 41 _ := Fr.start (args := #[pt fc, .agg ((elC x ++ (elC y ++ [Value.bool false]))).toArray]) (m := 41) (by simp)
  have hI := Inv.start0 w
  refine wp_seq ?_
  refine sy [] #[.new [] (fun _ => ((elC x ++ (elC y ++ [Value.bool false]))).toArray) 26,
      va (.bool false)]
    (fun g1 => [(0, pt fc), (3, pt (g1.γ 0)), (4, .bool false)]) (fun g1 => [((g1.γ 0), (elC x ++ (elC y ++ [Value.bool false])), 26)]) (fun _ => [])
    hF hI trivial (fun g => ⟨nw,
      pv, trivial⟩) ?_
  intro g1 a1 w1 hF hI
  refine wp_seq ?_
  refine sy [] #[va (.pointer (some ⟨(g1.γ 0), 12, none⟩)),
      va (.bool false),
      va (.bool false),
      va (pt fc),
      va (pt fc),
      va (pt fc),
      va (pt f),
      va (pt (g1.γ 0)),
      va (elv x),
      va (elv ((x % p))),
      va (pt (g1.γ 0)),
      va (elv x),
      va (.bool true),
      va (.bool true),
      va (pt fc),
      va (pt fc),
      va (pt fc),
      va (pt f),
      va (.pointer (some ⟨(g1.γ 0), 6, none⟩)),
      va (elv y),
      va (elv ((y % p))),
      va (.pointer (some ⟨(g1.γ 0), 6, none⟩)),
      va (elv y),
      va (.bool false),
      va (.bool false),
      va (.bool false),
      .off,
      .off,
      .off,
      .off,
      .off,
      .off,
      .off,
      .off,
      va (.bool false),
      va (.bool false),
      va (.bool false)]
    (fun g2 => [(4, .bool false)]) (fun _ => [((g1.γ 0), (elC x ++ (elC y ++ [Value.bool false])), 26)]) (fun _ => [])
    hF hI trivial (fun g => ⟨pv,
      lk1 0 12 rfl rfl,
      pv,
      pv,
      pv,
      pv,
      lO1 fc 0 hC.lt hC.c0 rfl,
      pv,
      lk 0 0 rfl rfl,
      cv fun w hI hfa => reduce_any _ _ _ _ _ _ _ _ (hC.below hI.below).fld hx,
      pv,
      lk 0 0 rfl rfl,
      ov fun w hI hfa => pureU (eqNt hx e1 rfl (by kernel_rfl) (by kernel_rfl)),
      pv,
      pv,
      pv,
      pv,
      lO1 fc 0 hC.lt hC.c0 rfl,
      pv,
      lk 0 6 rfl rfl,
      cv fun w hI hfa => reduce_any _ _ _ _ _ _ _ _ (hC.below hI.below).fld hy,
      pv,
      lk 0 6 rfl rfl,
      ov fun w hI hfa => pureU (eqNf hy e2 rfl (by kernel_rfl) (by kernel_rfl)),
      pv,
      pv,
      offV,
      offV,
      offV,
      offV,
      offV,
      offV,
      offV,
      offV,
      pv,
      pv,
      pv, trivial⟩) ?_
  intro g2 a2 w2 hF hI
  refine wp_ret ?_
  show bodyPost Tryz.prog Tryz.f125 (Ret w (.bool false)) .ret _ _
  exact sym_ret rfl hF.df (rv_tmp hF rfl) ⟨rfl, hI.below⟩
set_option maxRecDepth 100000 in
theorem pon_g1 {fc f q a p n v z : Nat} [Pr p] {b : Zm p} {x y : Nat} (hx : x < B64 ^ 6) (hy : y < B64 ^ 6) (e1 : x % p = x) (e2 : y % p = y) (eg : decide (gon b (gin x y false)) = true) {w : World} (hC : CAt w fc f q a p n v z b) : Calls Tryz.prog 125 #[.pointer (some ⟨fc, 0, none⟩), .agg ((elC x ++ (elC y ++ [Value.bool false]))).toArray] w (Ret w (.bool true)) := by
  have hcl := hC.lt
  refine calls_of_wp Tryz.func125 (by rfl : Tryz.f125.body = some _) ?_
  have hF : Fr [(0, pt fc), (1, .agg ((elC x ++ (elC y ++ [Value.bool false]))).toArray)] 41 _ := Fr.start (args := #[pt fc, .agg ((elC x ++ (elC y ++ [Value.bool false]))).toArray]) (m := 41) (by simp)
  have hI := Inv.start0 w
  refine wp_seq ?_
  refine sy [] #[.new [] (fun _ => ((elC x ++ (elC y ++ [Value.bool false]))).toArray) 26,
      va (.bool false)]
    (fun g1 => [(0, pt fc), (3, pt (g1.γ 0)), (4, .bool false)]) (fun g1 => [((g1.γ 0), (elC x ++ (elC y ++ [Value.bool false])), 26)]) (fun _ => [])
    hF hI trivial (fun g => ⟨nw,
      pv, trivial⟩) ?_
  intro g1 a1 w1 hF hI
  refine wp_seq ?_
  refine sy [] #[va (.pointer (some ⟨(g1.γ 0), 12, none⟩)),
      va (.bool false),
      va (.bool false),
      va (pt fc),
      va (pt fc),
      va (pt fc),
      va (pt f),
      va (pt (g1.γ 0)),
      va (elv x),
      va (elv ((x % p))),
      va (pt (g1.γ 0)),
      va (elv x),
      va (.bool true),
      va (.bool true),
      va (pt fc),
      va (pt fc),
      va (pt fc),
      va (pt f),
      va (.pointer (some ⟨(g1.γ 0), 6, none⟩)),
      va (elv y),
      va (elv ((y % p))),
      va (.pointer (some ⟨(g1.γ 0), 6, none⟩)),
      va (elv y),
      va (.bool true),
      va (.bool true),
      va (.bool true),
      va (pt fc),
      va (pt fc),
      va (.pointer (some ⟨fc, 1, none⟩)),
      va (pt q),
      va (pt fc),
      va (.agg ((elC x ++ (elC y ++ [Value.bool false]))).toArray),
      va (fp p n (gin x y false)),
      va (.bool true),
      va (.bool true),
      va (.bool true),
      va (.bool true)]
    (fun g2 => [(4, .bool true)]) (fun _ => [((g1.γ 0), (elC x ++ (elC y ++ [Value.bool false])), 26)]) (fun _ => [])
    hF hI trivial (fun g => ⟨pv,
      lk1 0 12 rfl rfl,
      pv,
      pv,
      pv,
      pv,
      lO1 fc 0 hC.lt hC.c0 rfl,
      pv,
      lk 0 0 rfl rfl,
      cv fun w hI hfa => reduce_any _ _ _ _ _ _ _ _ (hC.below hI.below).fld hx,
      pv,
      lk 0 0 rfl rfl,
      ov fun w hI hfa => pureU (eqNt hx e1 rfl (by kernel_rfl) (by kernel_rfl)),
      pv,
      pv,
      pv,
      pv,
      lO1 fc 0 hC.lt hC.c0 rfl,
      pv,
      lk 0 6 rfl rfl,
      cv fun w hI hfa => reduce_any _ _ _ _ _ _ _ _ (hC.below hI.below).fld hy,
      pv,
      lk 0 6 rfl rfl,
      ov fun w hI hfa => pureU (eqNt hy e2 rfl (by kernel_rfl) (by kernel_rfl)),
      pv,
      pv,
      pv,
      pv,
      pv,
      lO1 fc 1 hC.lt hC.c1 rfl,
      pv,
      lk 0 0 rfl rfl,
      cv fun w hI hfa => cin_any hx hy (hC.below hI.below),
      cv fun w hI hfa => on_any eg.symm (hC.below hI.below).grp,
      pv,
      pv,
      pv, trivial⟩) ?_
  intro g2 a2 w2 hF hI
  refine wp_ret ?_
  show bodyPost Tryz.prog Tryz.f125 (Ret w (.bool true)) .ret _ _
  exact sym_ret rfl hF.df (rv_tmp hF rfl) ⟨rfl, hI.below⟩
set_option maxRecDepth 100000 in
theorem pon_g0 {fc f q a p n v z : Nat} [Pr p] {b : Zm p} {x y : Nat} (hx : x < B64 ^ 6) (hy : y < B64 ^ 6) (e1 : x % p = x) (e2 : y % p = y) (eg : decide (gon b (gin x y false)) = false) {w : World} (hC : CAt w fc f q a p n v z b) : Calls Tryz.prog 125 #[.pointer (some ⟨fc, 0, none⟩), .agg ((elC x ++ (elC y ++ [Value.bool false]))).toArray] w (Ret w (.bool false)) := by
  have hcl := hC.lt
  refine calls_of_wp Tryz.func125 (by rfl : Tryz.f125.body = some _) ?_
  have hF : Fr [(0, pt fc), (1, .agg ((elC x ++ (elC y ++ [Value.bool false]))).toArray)] 41 _ := Fr.start (args := #[pt fc, .agg ((elC x ++ (elC y ++ [Value.bool false]))).toArray]) (m := 41) (by simp)
  have hI := Inv.start0 w
  refine wp_seq ?_
  refine sy [] #[.new [] (fun _ => ((elC x ++ (elC y ++ [Value.bool false]))).toArray) 26,
      va (.bool false)]
    (fun g1 => [(0, pt fc), (3, pt (g1.γ 0)), (4, .bool false)]) (fun g1 => [((g1.γ 0), (elC x ++ (elC y ++ [Value.bool false])), 26)]) (fun _ => [])
    hF hI trivial (fun g => ⟨nw,
      pv, trivial⟩) ?_
  intro g1 a1 w1 hF hI
  refine wp_seq ?_
  refine sy [] #[va (.pointer (some ⟨(g1.γ 0), 12, none⟩)),
      va (.bool false),
      va (.bool false),
      va (pt fc),
      va (pt fc),
      va (pt fc),
      va (pt f),
      va (pt (g1.γ 0)),
      va (elv x),
      va (elv ((x % p))),
      va (pt (g1.γ 0)),
      va (elv x),
      va (.bool true),
      va (.bool true),
      va (pt fc),
      va (pt fc),
      va (pt fc),
      va (pt f),
      va (.pointer (some ⟨(g1.γ 0), 6, none⟩)),
      va (elv y),
      va (elv ((y % p))),
      va (.pointer (some ⟨(g1.γ 0), 6, none⟩)),
      va (elv y),
      va (.bool true),
      va (.bool true),
      va (.bool true),
      va (pt fc),
      va (pt fc),
      va (.pointer (some ⟨fc, 1, none⟩)),
      va (pt q),
      va (pt fc),
      va (.agg ((elC x ++ (elC y ++ [Value.bool false]))).toArray),
      va (fp p n (gin x y false)),
      va (.bool false),
      va (.bool false),
      va (.bool false),
      va (.bool false)]
    (fun g2 => [(4, .bool false)]) (fun _ => [((g1.γ 0), (elC x ++ (elC y ++ [Value.bool false])), 26)]) (fun _ => [])
    hF hI trivial (fun g => ⟨pv,
      lk1 0 12 rfl rfl,
      pv,
      pv,
      pv,
      pv,
      lO1 fc 0 hC.lt hC.c0 rfl,
      pv,
      lk 0 0 rfl rfl,
      cv fun w hI hfa => reduce_any _ _ _ _ _ _ _ _ (hC.below hI.below).fld hx,
      pv,
      lk 0 0 rfl rfl,
      ov fun w hI hfa => pureU (eqNt hx e1 rfl (by kernel_rfl) (by kernel_rfl)),
      pv,
      pv,
      pv,
      pv,
      lO1 fc 0 hC.lt hC.c0 rfl,
      pv,
      lk 0 6 rfl rfl,
      cv fun w hI hfa => reduce_any _ _ _ _ _ _ _ _ (hC.below hI.below).fld hy,
      pv,
      lk 0 6 rfl rfl,
      ov fun w hI hfa => pureU (eqNt hy e2 rfl (by kernel_rfl) (by kernel_rfl)),
      pv,
      pv,
      pv,
      pv,
      pv,
      lO1 fc 1 hC.lt hC.c1 rfl,
      pv,
      lk 0 0 rfl rfl,
      cv fun w hI hfa => cin_any hx hy (hC.below hI.below),
      cv fun w hI hfa => on_any eg.symm (hC.below hI.below).grp,
      pv,
      pv,
      pv, trivial⟩) ?_
  intro g2 a2 w2 hF hI
  refine wp_ret ?_
  show bodyPost Tryz.prog Tryz.f125 (Ret w (.bool false)) .ret _ _
  exact sym_ret rfl hF.df (rv_tmp hF rfl) ⟨rfl, hI.below⟩
theorem pon_any {fc f q a p n v z : Nat} [Pr p] {b : Zm p} {x y : Nat} (hx : x < B64 ^ 6) (hy : y < B64 ^ 6) {i : Bool} {w : World} (hC : CAt w fc f q a p n v z b) : Calls Tryz.prog 125 #[.pointer (some ⟨fc, 0, none⟩), p1 x y i] w (Ret w (.bool (p1on b x y i))) := by
  unfold p1on
  cases i with
  | true => exact pon_t hx hy hC
  | false =>
    by_cases e1 : x % p = x
    · by_cases e2 : y % p = y
      · rw [decide_eq_true e1, decide_eq_true e2]
        cases eg : decide (gon b (gin x y false)) with
        | true => exact pon_g1 hx hy e1 e2 eg hC
        | false => exact pon_g0 hx hy e1 e2 eg hC
      · rw [decide_eq_false e2, Bool.and_false]
        exact pon_ny hx hy e1 e2 hC
    · rw [decide_eq_false e1]
      exact pon_nx hx hy e1 hC
end Go.Proofs.YtjokcbjahidckaaGreat
/-! curve.with1: a curve on which these points lie. Conditions: numbers have six limbs. -/
namespace Go.Proofs.YtjokcbjahidckaaGreat
open Go.RowKit

theorem FirstB.toC {w : World} {fc f q o a v c : Nat} [hp : Pr (prm (2 * c - 1))] (h : FirstB w fc f q o a v c) : CAt w fc f q a (prm (2 * c - 1)) (pml (2 * c - 1)) v (psz (2 * c - 1)) (Zm.of (cbN c)) where
  c0 := by simp only [World.cell?]; rw [h.own]; rfl
  c1 := by simp only [World.cell?]; rw [h.own]; rfl
  fld := h.fld.toG
  grp := by
    refine ⟨by simp only [World.cell?]; rw [h.grp]; rfl, ?_, h.fld.fld.2⟩
    have e : feC (prm (2 * c - 1)) (pml (2 * c - 1)) (Zm.of (cbN c)) = elC (cbN c * B64 ^ pml (2 * c - 1) % prm (2 * c - 1)) := by
      unfold feC elC
      rw [Zm.val_of, Nat.mod_mul_mod]
    rw [e]
    refine rangeAt_of h.grp ?_
    have hl : (elC (cbN c * B64 ^ pml (2 * c - 1) % prm (2 * c - 1))).length = 6 := by simp [elC, length_digs]
    show List.take _ (elC (cbN c * B64 ^ pml (2 * c - 1) % prm (2 * c - 1))) = _
    exact List.take_of_length_le (Nat.le_refl _)
theorem curve1_any (c : Nat) (h1 : 1 ≤ c) (h3 : c ≤ 3) {w : World} : Calls Tryz.prog 123 #[.int .i64 (c : Nat)] w (FirstR w c) := by
  obtain rfl | rfl | rfl : c = 1 ∨ c = 2 ∨ c = 3 := by omega
  · exact curve1_1
  · exact curve1_2
  · exact curve1_3
theorem Inv.nil {N : Nat} {w00 w : World} {K : List (Nat × List Value × TypeId)} {Φ : List (World → Prop)} (h : Inv N w00 K Φ w) : Inv N w00 [] Φ w := ⟨h.below, ⟨fun e he => (by cases he), List.Pairwise.nil⟩, h.sz, h.facts⟩

set_option maxRecDepth 100000 in
set_option maxHeartbeats 1000000 in
theorem with_bad0 {k : Int} (hk : ∀ i : Int, 1 ≤ i → i ≤ 3 → k ≠ i) {w : World} : Calls Tryz.prog 99 #[.int .i64 k, .slice none 0 0] w (Ret w (.tuple #[.pointer none, .int .i64 1])) := by
  refine calls_of_wp Tryz.func99 (by rfl : Tryz.f99.body = some _) ?_
  have hF : Fr [(0, .int .i64 k), (1, .slice none 0 0)] 30 _ := Fr.start (args := #[.int .i64 k, .slice none 0 0]) (m := 30) (by simp)
  have hI := Inv.start0 w
  refine wp_seq ?_
  refine sy [] #[va (.pointer none),
      va (.int .i64 0)]
    (fun g1 => [(0, .int .i64 k), (1, .slice none 0 0), (4, .pointer none), (5, .int .i64 0)]) (fun _ => []) (fun _ => [])
    hF hI trivial (fun g => ⟨pv,
      pv, trivial⟩) ?_
  intro g1 a1 w1 hF hI
  refine wp_seq ?_
  refine sy [] #[va (.int .i64 k),
      va (.tuple #[.pointer none, .int .i64 1]),
      va (.tuple #[.pointer none, .int .i64 1]),
      va (.pointer none),
      va (.int .i64 1),
      va (.pointer none),
      va (.int .i64 1)]
    (fun g2 => [(1, .slice none 0 0), (4, .pointer none), (5, .int .i64 0), (6, .pointer none), (7, .int .i64 1)]) (fun _ => []) (fun _ => [])
    hF hI trivial (fun g => ⟨pv,
      cv fun w hI hfa => curve1_0 hk,
      pv,
      pv,
      pv,
      pv,
      pv, trivial⟩) ?_
  intro g2 a2 w2 hF hI
  refine wp_seq ?_
  refine wp_seq ?_
  refine sy [] #[va (.int .i64 1),
      va (.bool true)]
    (fun g3 => [(1, .slice none 0 0), (4, .pointer none), (5, .int .i64 0), (6, .pointer none), (7, .int .i64 1), (16, .bool true)]) (fun _ => []) (fun _ => [])
    hF hI trivial (fun g => ⟨pv,
      pv, trivial⟩) ?_
  intro g3 a3 w3 hF hI
  refine wp_cond_true (hF.eval rfl) ?_
  refine wp_seq ?_
  refine sy [] #[va (.int .i64 1),
      va (.pointer none),
      va (.int .i64 1)]
    (fun g4 => [(1, .slice none 0 0), (4, .pointer none), (5, .int .i64 1), (6, .pointer none)]) (fun _ => []) (fun _ => [])
    hF hI trivial (fun g => ⟨pv,
      pv,
      pv, trivial⟩) ?_
  intro g4 a4 w4 hF hI
  refine wp_ret ?_
  show bodyPost Tryz.prog Tryz.f99 (Ret w (.tuple #[.pointer none, .int .i64 1])) .ret _ _
  exact sym_ret2 rfl hF.df (rv_tmp hF rfl) (rv_tmp hF rfl) ⟨rfl, hI.below⟩

set_option maxRecDepth 100000 in
set_option maxHeartbeats 1000000 in
theorem with_bad1 {k : Int} (hk : ∀ i : Int, 1 ≤ i → i ≤ 3 → k ≠ i) {pb : Nat} {w : World} : Calls Tryz.prog 99 #[.int .i64 k, .slice (some ⟨pb, 0, none⟩) 1 1] w (Ret w (.tuple #[.pointer none, .int .i64 1])) := by
  refine calls_of_wp Tryz.func99 (by rfl : Tryz.f99.body = some _) ?_
  have hF : Fr [(0, .int .i64 k), (1, .slice (some ⟨pb, 0, none⟩) 1 1)] 30 _ := Fr.start (args := #[.int .i64 k, .slice (some ⟨pb, 0, none⟩) 1 1]) (m := 30) (by simp)
  have hI := Inv.start0 w
  refine wp_seq ?_
  refine sy [] #[va (.pointer none),
      va (.int .i64 0)]
    (fun g1 => [(0, .int .i64 k), (1, .slice (some ⟨pb, 0, none⟩) 1 1), (4, .pointer none), (5, .int .i64 0)]) (fun _ => []) (fun _ => [])
    hF hI trivial (fun g => ⟨pv,
      pv, trivial⟩) ?_
  intro g1 a1 w1 hF hI
  refine wp_seq ?_
  refine sy [] #[va (.int .i64 k),
      va (.tuple #[.pointer none, .int .i64 1]),
      va (.tuple #[.pointer none, .int .i64 1]),
      va (.pointer none),
      va (.int .i64 1),
      va (.pointer none),
      va (.int .i64 1)]
    (fun g2 => [(1, .slice (some ⟨pb, 0, none⟩) 1 1), (4, .pointer none), (5, .int .i64 0), (6, .pointer none), (7, .int .i64 1)]) (fun _ => []) (fun _ => [])
    hF hI trivial (fun g => ⟨pv,
      cv fun w hI hfa => curve1_0 hk,
      pv,
      pv,
      pv,
      pv,
      pv, trivial⟩) ?_
  intro g2 a2 w2 hF hI
  refine wp_seq ?_
  refine wp_seq ?_
  refine sy [] #[va (.int .i64 1),
      va (.bool true)]
    (fun g3 => [(1, .slice (some ⟨pb, 0, none⟩) 1 1), (4, .pointer none), (5, .int .i64 0), (6, .pointer none), (7, .int .i64 1), (16, .bool true)]) (fun _ => []) (fun _ => [])
    hF hI trivial (fun g => ⟨pv,
      pv, trivial⟩) ?_
  intro g3 a3 w3 hF hI
  refine wp_cond_true (hF.eval rfl) ?_
  refine wp_seq ?_
  refine sy [] #[va (.int .i64 1),
      va (.pointer none),
      va (.int .i64 1)]
    (fun g4 => [(1, .slice (some ⟨pb, 0, none⟩) 1 1), (4, .pointer none), (5, .int .i64 1), (6, .pointer none)]) (fun _ => []) (fun _ => [])
    hF hI trivial (fun g => ⟨pv,
      pv,
      pv, trivial⟩) ?_
  intro g4 a4 w4 hF hI
  refine wp_ret ?_
  show bodyPost Tryz.prog Tryz.f99 (Ret w (.tuple #[.pointer none, .int .i64 1])) .ret _ _
  exact sym_ret2 rfl hF.df (rv_tmp hF rfl) (rv_tmp hF rfl) ⟨rfl, hI.below⟩

set_option maxRecDepth 100000 in
set_option maxHeartbeats 1000000 in
theorem with_bad2 {k : Int} (hk : ∀ i : Int, 1 ≤ i → i ≤ 3 → k ≠ i) {pb : Nat} {w : World} : Calls Tryz.prog 99 #[.int .i64 k, .slice (some ⟨pb, 0, none⟩) 2 2] w (Ret w (.tuple #[.pointer none, .int .i64 1])) := by
  refine calls_of_wp Tryz.func99 (by rfl : Tryz.f99.body = some _) ?_
  have hF : Fr [(0, .int .i64 k), (1, .slice (some ⟨pb, 0, none⟩) 2 2)] 30 _ := Fr.start (args := #[.int .i64 k, .slice (some ⟨pb, 0, none⟩) 2 2]) (m := 30) (by simp)
  have hI := Inv.start0 w
  refine wp_seq ?_
  refine sy [] #[va (.pointer none),
      va (.int .i64 0)]
    (fun g1 => [(0, .int .i64 k), (1, .slice (some ⟨pb, 0, none⟩) 2 2), (4, .pointer none), (5, .int .i64 0)]) (fun _ => []) (fun _ => [])
    hF hI trivial (fun g => ⟨pv,
      pv, trivial⟩) ?_
  intro g1 a1 w1 hF hI
  refine wp_seq ?_
  refine sy [] #[va (.int .i64 k),
      va (.tuple #[.pointer none, .int .i64 1]),
      va (.tuple #[.pointer none, .int .i64 1]),
      va (.pointer none),
      va (.int .i64 1),
      va (.pointer none),
      va (.int .i64 1)]
    (fun g2 => [(1, .slice (some ⟨pb, 0, none⟩) 2 2), (4, .pointer none), (5, .int .i64 0), (6, .pointer none), (7, .int .i64 1)]) (fun _ => []) (fun _ => [])
    hF hI trivial (fun g => ⟨pv,
      cv fun w hI hfa => curve1_0 hk,
      pv,
      pv,
      pv,
      pv,
      pv, trivial⟩) ?_
  intro g2 a2 w2 hF hI
  refine wp_seq ?_
  refine wp_seq ?_
  refine sy [] #[va (.int .i64 1),
      va (.bool true)]
    (fun g3 => [(1, .slice (some ⟨pb, 0, none⟩) 2 2), (4, .pointer none), (5, .int .i64 0), (6, .pointer none), (7, .int .i64 1), (16, .bool true)]) (fun _ => []) (fun _ => [])
    hF hI trivial (fun g => ⟨pv,
      pv, trivial⟩) ?_
  intro g3 a3 w3 hF hI
  refine wp_cond_true (hF.eval rfl) ?_
  refine wp_seq ?_
  refine sy [] #[va (.int .i64 1),
      va (.pointer none),
      va (.int .i64 1)]
    (fun g4 => [(1, .slice (some ⟨pb, 0, none⟩) 2 2), (4, .pointer none), (5, .int .i64 1), (6, .pointer none)]) (fun _ => []) (fun _ => [])
    hF hI trivial (fun g => ⟨pv,
      pv,
      pv, trivial⟩) ?_
  intro g4 a4 w4 hF hI
  refine wp_ret ?_
  show bodyPost Tryz.prog Tryz.f99 (Ret w (.tuple #[.pointer none, .int .i64 1])) .ret _ _
  exact sym_ret2 rfl hF.df (rv_tmp hF rfl) (rv_tmp hF rfl) ⟨rfl, hI.below⟩

set_option maxRecDepth 100000 in
set_option maxHeartbeats 1000000 in
theorem with_0 {c : Nat} (h1 : 1 ≤ c) (h3 : c ≤ 3) [Pr (prm (2 * c - 1))] {w : World} : Calls Tryz.prog 99 #[.int .i64 (c : Nat), .slice none 0 0] w (FirstR w c) := by
  refine calls_of_wp Tryz.func99 (by rfl : Tryz.f99.body = some _) ?_
  have hF : Fr [(0, .int .i64 (c : Nat)), (1, .slice none 0 0)] 30 _ := Fr.start (args := #[.int .i64 (c : Nat), .slice none 0 0]) (m := 30) (by simp)
  have hI := Inv.start0 w
  refine wp_seq ?_
  refine sy [] #[va (.pointer none),
      va (.int .i64 0)]
    (fun g1 => [(0, .int .i64 (c : Nat)), (1, .slice none 0 0), (4, .pointer none), (5, .int .i64 0)]) (fun _ => []) (fun _ => [])
    hF hI trivial (fun g => ⟨pv,
      pv, trivial⟩) ?_
  intro g1 a1 w1 hF hI
  refine wp_seq ?_
  refine sy [] #[va (.int .i64 (c : Nat)),
      .ex [] (fun d => .tuple #[.pointer (some ⟨d.n 0, 0, none⟩), .int .i64 0]) (fun _ d => fun w => FirstB w (d.n 0) (d.n 1) (d.n 2) (d.n 3) (d.n 4) (d.n 5) c),
      .val [1] (fun l => .tuple #[pt ((l.getD 0 dat0).n 0), .int .i64 0]),
      .val [1] (fun l => pt ((l.getD 0 dat0).n 0)),
      va (.int .i64 0),
      .val [1] (fun l => pt ((l.getD 0 dat0).n 0)),
      va (.int .i64 0)]
    (fun g2 => [(1, .slice none 0 0), (4, .pointer none), (5, .int .i64 0), (6, pt ((g2.δ 1).n 0)), (7, .int .i64 0)]) (fun _ => []) (fun g2 => [fun w => FirstB w ((g2.δ 1).n 0) ((g2.δ 1).n 1) ((g2.δ 1).n 2) ((g2.δ 1).n 3) ((g2.δ 1).n 4) ((g2.δ 1).n 5) c])
    hF hI trivial (fun g => ⟨pv,
      cx (fun l d w w1 hg h => FirstB.grow hg rfl rfl rfl rfl rfl h) fun w hI hfa => curve1_any c h1 h3,
      pv,
      pv,
      pv,
      pv,
      pv, trivial⟩) ?_
  intro g2 a2 w2 hF hI
  refine wp_seq ?_
  refine wp_seq ?_
  refine sy [] #[va (.int .i64 0),
      va (.bool false)]
    (fun g3 => [(1, .slice none 0 0), (4, .pointer none), (5, .int .i64 0), (6, pt ((g2.δ 1).n 0)), (7, .int .i64 0), (16, .bool false)]) (fun _ => []) (fun _ => [fun w => FirstB w ((g2.δ 1).n 0) ((g2.δ 1).n 1) ((g2.δ 1).n 2) ((g2.δ 1).n 3) ((g2.δ 1).n 4) ((g2.δ 1).n 5) c])
    hF hI ⟨(fun w w1 hg h => FirstB.grow hg rfl rfl rfl rfl rfl h), trivial⟩ (fun g => ⟨pv,
      pv, trivial⟩) ?_
  intro g3 a3 w3 hF hI
  refine wp_cond_false (hF.eval rfl) ?_
  refine wp_skip ?_
  refine wp_seq ?_
  refine wp_seq ?_
  refine sy [] #[va (.slice none 0 0),
      va (.int .i64 0),
      va (.int .i64 0)]
    (fun g4 => [(4, .pointer none), (5, .int .i64 0), (6, pt ((g2.δ 1).n 0)), (18, .slice none 0 0), (19, .int .i64 0), (20, .int .i64 0)]) (fun _ => []) (fun _ => [fun w => FirstB w ((g2.δ 1).n 0) ((g2.δ 1).n 1) ((g2.δ 1).n 2) ((g2.δ 1).n 3) ((g2.δ 1).n 4) ((g2.δ 1).n 5) c])
    hF hI ⟨(fun w w1 hg h => FirstB.grow hg rfl rfl rfl rfl rfl h), trivial⟩ (fun g => ⟨pv,
      pv,
      pv, trivial⟩) ?_
  intro g4 a4 w4 hF hI
  refine wp_block ?_
  refine wp_loop_up (fun k a' w' => Fr [(4, .pointer none), (5, .int .i64 0), (6, pt ((g2.δ 1).n 0)), (18, .slice none 0 0), (19, .int .i64 0), (20, .int .i64 ((k : Nat) : Int))] 30 a' ∧ Inv w.heap.size w [] [fun w => FirstB w ((g2.δ 1).n 0) ((g2.δ 1).n 1) ((g2.δ 1).n 2) ((g2.δ 1).n 3) ((g2.δ 1).n 4) ((g2.δ 1).n 5) c] w') 0 ⟨hF, hI.nil⟩ (fun a8 w8 h => ?_) (fun k a8 w8 hk h => ?_)
  · obtain ⟨hF, hI⟩ := h
    have hF : Fr [(4, .pointer none), (5, .int .i64 0), (6, pt ((g2.δ 1).n 0)), (18, .slice none 0 0), (19, .int .i64 0), (20, .int .i64 0)] 30 a8 := hF
    refine wp_seq ?_
    refine sy [] #[va (.bool false)]
      (fun g5 => [(4, .pointer none), (5, .int .i64 0), (6, pt ((g2.δ 1).n 0)), (18, .slice none 0 0), (20, .int .i64 0), (21, .bool false)]) (fun _ => []) (fun _ => [fun w => FirstB w ((g2.δ 1).n 0) ((g2.δ 1).n 1) ((g2.δ 1).n 2) ((g2.δ 1).n 3) ((g2.δ 1).n 4) ((g2.δ 1).n 5) c])
      hF hI ⟨(fun w w1 hg h => FirstB.grow hg rfl rfl rfl rfl rfl h), trivial⟩ (fun g => ⟨pv, trivial⟩) ?_
    intro g5 a5 w5 hF hI
    refine wp_seq ?_
    refine wp_cond_false (hF.eval rfl) ?_
    refine wp_exit ?_
    refine wp_seq ?_
    refine sy [] #[va (pt ((g2.δ 1).n 0)),
      va (pt ((g2.δ 1).n 0)),
      va (.int .i64 0)]
      (fun g6 => [(4, pt ((g2.δ 1).n 0)), (5, .int .i64 0)]) (fun _ => []) (fun _ => [fun w => FirstB w ((g2.δ 1).n 0) ((g2.δ 1).n 1) ((g2.δ 1).n 2) ((g2.δ 1).n 3) ((g2.δ 1).n 4) ((g2.δ 1).n 5) c])
      hF hI ⟨(fun w w1 hg h => FirstB.grow hg rfl rfl rfl rfl rfl h), trivial⟩ (fun g => ⟨pv,
      pv,
      pv, trivial⟩) ?_
    intro g6 a6 w6 hF hI
    refine wp_ret ?_
    show bodyPost Tryz.prog Tryz.f99 (FirstR w c) .ret _ _
    exact sym_ret2 rfl hF.df (rv_tmp hF rfl) (rv_tmp hF rfl) ⟨(g2.δ 1), rfl, hI.below, hI.fact 0 rfl⟩
  · omega

set_option maxRecDepth 100000 in
set_option maxHeartbeats 1000000 in
theorem with_1t {c : Nat} (h1 : 1 ≤ c) (h3 : c ≤ 3) [Pr (prm (2 * c - 1))] {pb : Nat} {x0 y0 : Nat} {i0 : Bool} (hx0 : x0 < B64 ^ 6) (hy0 : y0 < B64 ^ 6) (e0 : p1on (Zm.of (cbN c) : Zm (prm (2 * c - 1))) x0 y0 i0 = true) {w : World} (hpl : pb < w.heap.size) (hp0 : w.rangeAt pb 0 (elC x0 ++ (elC y0 ++ [Value.bool i0]))) : Calls Tryz.prog 99 #[.int .i64 (c : Nat), .slice (some ⟨pb, 0, none⟩) 1 1] w (FirstR w c) := by
  refine calls_of_wp Tryz.func99 (by rfl : Tryz.f99.body = some _) ?_
  have hF : Fr [(0, .int .i64 (c : Nat)), (1, .slice (some ⟨pb, 0, none⟩) 1 1)] 30 _ := Fr.start (args := #[.int .i64 (c : Nat), .slice (some ⟨pb, 0, none⟩) 1 1]) (m := 30) (by simp)
  have hI := Inv.start0 w
  refine wp_seq ?_
  refine sy [] #[va (.pointer none),
      va (.int .i64 0)]
    (fun g1 => [(0, .int .i64 (c : Nat)), (1, .slice (some ⟨pb, 0, none⟩) 1 1), (4, .pointer none), (5, .int .i64 0)]) (fun _ => []) (fun _ => [])
    hF hI trivial (fun g => ⟨pv,
      pv, trivial⟩) ?_
  intro g1 a1 w1 hF hI
  refine wp_seq ?_
  refine sy [] #[va (.int .i64 (c : Nat)),
      .ex [] (fun d => .tuple #[.pointer (some ⟨d.n 0, 0, none⟩), .int .i64 0]) (fun _ d => fun w => FirstB w (d.n 0) (d.n 1) (d.n 2) (d.n 3) (d.n 4) (d.n 5) c),
      .val [1] (fun l => .tuple #[pt ((l.getD 0 dat0).n 0), .int .i64 0]),
      .val [1] (fun l => pt ((l.getD 0 dat0).n 0)),
      va (.int .i64 0),
      .val [1] (fun l => pt ((l.getD 0 dat0).n 0)),
      va (.int .i64 0)]
    (fun g2 => [(1, .slice (some ⟨pb, 0, none⟩) 1 1), (4, .pointer none), (5, .int .i64 0), (6, pt ((g2.δ 1).n 0)), (7, .int .i64 0)]) (fun _ => []) (fun g2 => [fun w => FirstB w ((g2.δ 1).n 0) ((g2.δ 1).n 1) ((g2.δ 1).n 2) ((g2.δ 1).n 3) ((g2.δ 1).n 4) ((g2.δ 1).n 5) c])
    hF hI trivial (fun g => ⟨pv,
      cx (fun l d w w1 hg h => FirstB.grow hg rfl rfl rfl rfl rfl h) fun w hI hfa => curve1_any c h1 h3,
      pv,
      pv,
      pv,
      pv,
      pv, trivial⟩) ?_
  intro g2 a2 w2 hF hI
  refine wp_seq ?_
  refine wp_seq ?_
  refine sy [] #[va (.int .i64 0),
      va (.bool false)]
    (fun g3 => [(1, .slice (some ⟨pb, 0, none⟩) 1 1), (4, .pointer none), (5, .int .i64 0), (6, pt ((g2.δ 1).n 0)), (7, .int .i64 0), (16, .bool false)]) (fun _ => []) (fun _ => [fun w => FirstB w ((g2.δ 1).n 0) ((g2.δ 1).n 1) ((g2.δ 1).n 2) ((g2.δ 1).n 3) ((g2.δ 1).n 4) ((g2.δ 1).n 5) c])
    hF hI ⟨(fun w w1 hg h => FirstB.grow hg rfl rfl rfl rfl rfl h), trivial⟩ (fun g => ⟨pv,
      pv, trivial⟩) ?_
  intro g3 a3 w3 hF hI
  refine wp_cond_false (hF.eval rfl) ?_
  refine wp_skip ?_
  refine wp_seq ?_
  refine wp_seq ?_
  refine sy [] #[va (.slice (some ⟨pb, 0, none⟩) 1 1),
      va (.int .i64 1),
      va (.int .i64 0)]
    (fun g4 => [(4, .pointer none), (5, .int .i64 0), (6, pt ((g2.δ 1).n 0)), (18, .slice (some ⟨pb, 0, none⟩) 1 1), (19, .int .i64 1), (20, .int .i64 0)]) (fun _ => []) (fun _ => [fun w => FirstB w ((g2.δ 1).n 0) ((g2.δ 1).n 1) ((g2.δ 1).n 2) ((g2.δ 1).n 3) ((g2.δ 1).n 4) ((g2.δ 1).n 5) c])
    hF hI ⟨(fun w w1 hg h => FirstB.grow hg rfl rfl rfl rfl rfl h), trivial⟩ (fun g => ⟨pv,
      pv,
      pv, trivial⟩) ?_
  intro g4 a4 w4 hF hI
  refine wp_block ?_
  refine wp_loop_up (fun k a' w' => Fr [(4, .pointer none), (5, .int .i64 0), (6, pt ((g2.δ 1).n 0)), (18, .slice (some ⟨pb, 0, none⟩) 1 1), (19, .int .i64 1), (20, .int .i64 ((k : Nat) : Int))] 30 a' ∧ Inv w.heap.size w [] [fun w => FirstB w ((g2.δ 1).n 0) ((g2.δ 1).n 1) ((g2.δ 1).n 2) ((g2.δ 1).n 3) ((g2.δ 1).n 4) ((g2.δ 1).n 5) c] w') 1 ⟨hF, hI.nil⟩ (fun a8 w8 h => ?_) (fun k a8 w8 hk h => ?_)
  · obtain ⟨hF, hI⟩ := h
    have hF : Fr [(4, .pointer none), (5, .int .i64 0), (6, pt ((g2.δ 1).n 0)), (18, .slice (some ⟨pb, 0, none⟩) 1 1), (19, .int .i64 1), (20, .int .i64 1)] 30 a8 := hF
    refine wp_seq ?_
    refine sy [] #[va (.bool false)]
      (fun g5 => [(4, .pointer none), (5, .int .i64 0), (6, pt ((g2.δ 1).n 0)), (18, .slice (some ⟨pb, 0, none⟩) 1 1), (20, .int .i64 1), (21, .bool false)]) (fun _ => []) (fun _ => [fun w => FirstB w ((g2.δ 1).n 0) ((g2.δ 1).n 1) ((g2.δ 1).n 2) ((g2.δ 1).n 3) ((g2.δ 1).n 4) ((g2.δ 1).n 5) c])
      hF hI ⟨(fun w w1 hg h => FirstB.grow hg rfl rfl rfl rfl rfl h), trivial⟩ (fun g => ⟨pv, trivial⟩) ?_
    intro g5 a5 w5 hF hI
    refine wp_seq ?_
    refine wp_cond_false (hF.eval rfl) ?_
    refine wp_exit ?_
    refine wp_seq ?_
    refine sy [] #[va (pt ((g2.δ 1).n 0)),
      va (pt ((g2.δ 1).n 0)),
      va (.int .i64 0)]
      (fun g6 => [(4, pt ((g2.δ 1).n 0)), (5, .int .i64 0)]) (fun _ => []) (fun _ => [fun w => FirstB w ((g2.δ 1).n 0) ((g2.δ 1).n 1) ((g2.δ 1).n 2) ((g2.δ 1).n 3) ((g2.δ 1).n 4) ((g2.δ 1).n 5) c])
      hF hI ⟨(fun w w1 hg h => FirstB.grow hg rfl rfl rfl rfl rfl h), trivial⟩ (fun g => ⟨pv,
      pv,
      pv, trivial⟩) ?_
    intro g6 a6 w6 hF hI
    refine wp_ret ?_
    show bodyPost Tryz.prog Tryz.f99 (FirstR w c) .ret _ _
    exact sym_ret2 rfl hF.df (rv_tmp hF rfl) (rv_tmp hF rfl) ⟨(g2.δ 1), rfl, hI.below, hI.fact 0 rfl⟩
  · obtain ⟨hF, hI⟩ := h
    obtain rfl : k = 0 := by omega
    · have hF : Fr [(4, .pointer none), (5, .int .i64 0), (6, pt ((g2.δ 1).n 0)), (18, .slice (some ⟨pb, 0, none⟩) 1 1), (19, .int .i64 1), (20, .int .i64 0)] 30 a8 := hF
      refine wp_seq ?_
      refine sy [] #[va (.bool true)]
        (fun g5 => [(4, .pointer none), (5, .int .i64 0), (6, pt ((g2.δ 1).n 0)), (18, .slice (some ⟨pb, 0, none⟩) 1 1), (19, .int .i64 1), (20, .int .i64 0), (21, .bool true)]) (fun _ => []) (fun _ => [fun w => FirstB w ((g2.δ 1).n 0) ((g2.δ 1).n 1) ((g2.δ 1).n 2) ((g2.δ 1).n 3) ((g2.δ 1).n 4) ((g2.δ 1).n 5) c])
        hF hI ⟨(fun w w1 hg h => FirstB.grow hg rfl rfl rfl rfl rfl h), trivial⟩ (fun g => ⟨pv, trivial⟩) ?_
      intro g5 a5 w5 hF hI
      refine wp_seq ?_
      refine wp_cond_true (hF.eval rfl) ?_
      refine wp_skip ?_
      refine wp_seq ?_
      refine wp_block ?_
      refine wp_seq ?_
      refine sy [26] #[va (pt pb),
      va (.agg ((elC x0 ++ (elC y0 ++ [Value.bool i0]))).toArray),
      .new [] (fun _ => ((Z6 ++ (Z6 ++ [Value.bool false]))).toArray) 26,
      .put 2 [] (fun _ => ((elC x0 ++ (elC y0 ++ [Value.bool i0]))).toArray)]
        (fun g6 => [(4, .pointer none), (5, .int .i64 0), (6, pt ((g2.δ 1).n 0)), (9, pt (g6.γ 2)), (18, .slice (some ⟨pb, 0, none⟩) 1 1), (19, .int .i64 1), (20, .int .i64 0)]) (fun g6 => [((g6.γ 2), (elC x0 ++ (elC y0 ++ [Value.bool i0])), 26)]) (fun _ => [fun w => FirstB w ((g2.δ 1).n 0) ((g2.δ 1).n 1) ((g2.δ 1).n 2) ((g2.δ 1).n 3) ((g2.δ 1).n 4) ((g2.δ 1).n 5) c])
        hF hI ⟨(fun w w1 hg h => FirstB.grow hg rfl rfl rfl rfl rfl h), trivial⟩ (fun g => ⟨pv,
      lO pb 0 hpl hp0 rfl,
      nw,
      po (.agg ((elC x0 ++ (elC y0 ++ [Value.bool i0]))).toArray) ((Z6 ++ (Z6 ++ [Value.bool false]))) rfl, trivial⟩) ?_
      intro g6 a6 w6 hF hI
      refine wp_seq ?_
      refine sy [] #[va (pt ((g2.δ 1).n 0)),
      va (.agg ((elC x0 ++ (elC y0 ++ [Value.bool i0]))).toArray),
      va (.bool true),
      va (.bool false)]
        (fun g7 => [(4, .pointer none), (5, .int .i64 0), (6, pt ((g2.δ 1).n 0)), (18, .slice (some ⟨pb, 0, none⟩) 1 1), (19, .int .i64 1), (20, .int .i64 0), (27, .bool false)]) (fun _ => [((g6.γ 2), (elC x0 ++ (elC y0 ++ [Value.bool i0])), 26)]) (fun _ => [fun w => FirstB w ((g2.δ 1).n 0) ((g2.δ 1).n 1) ((g2.δ 1).n 2) ((g2.δ 1).n 3) ((g2.δ 1).n 4) ((g2.δ 1).n 5) c])
        hF hI ⟨(fun w w1 hg h => FirstB.grow hg rfl rfl rfl rfl rfl h), trivial⟩ (fun g => ⟨pv,
      lk 0 0 rfl rfl,
      cv fun w hI hfa => (e0 ▸ pon_any hx0 hy0 (hI.fact 0 rfl).toC),
      pv, trivial⟩) ?_
      intro g7 a7 w7 hF hI
      refine wp_cond_false (hF.eval rfl) ?_
      refine wp_skip ?_
      refine sy [] #[va (.int .i64 1),
      va (.int .i64 1)]
        (fun g8 => [(4, .pointer none), (5, .int .i64 0), (6, pt ((g2.δ 1).n 0)), (18, .slice (some ⟨pb, 0, none⟩) 1 1), (19, .int .i64 1), (20, .int .i64 1)]) (fun _ => [((g6.γ 2), (elC x0 ++ (elC y0 ++ [Value.bool i0])), 26)]) (fun _ => [fun w => FirstB w ((g2.δ 1).n 0) ((g2.δ 1).n 1) ((g2.δ 1).n 2) ((g2.δ 1).n 3) ((g2.δ 1).n 4) ((g2.δ 1).n 5) c])
        hF hI ⟨(fun w w1 hg h => FirstB.grow hg rfl rfl rfl rfl rfl h), trivial⟩ (fun g => ⟨pv,
      pv, trivial⟩) ?_
      intro g8 a8 w8 hF hI
      exact ⟨hF, hI.nil⟩

set_option maxRecDepth 100000 in
set_option maxHeartbeats 1000000 in
theorem with_1f {c : Nat} (h1 : 1 ≤ c) (h3 : c ≤ 3) [Pr (prm (2 * c - 1))] {pb : Nat} {x0 y0 : Nat} {i0 : Bool} (hx0 : x0 < B64 ^ 6) (hy0 : y0 < B64 ^ 6) (e0 : p1on (Zm.of (cbN c) : Zm (prm (2 * c - 1))) x0 y0 i0 = false) {w : World} (hpl : pb < w.heap.size) (hp0 : w.rangeAt pb 0 (elC x0 ++ (elC y0 ++ [Value.bool i0]))) : Calls Tryz.prog 99 #[.int .i64 (c : Nat), .slice (some ⟨pb, 0, none⟩) 1 1] w (Ret w (.tuple #[.pointer none, .int .i64 4])) := by
  refine calls_of_wp Tryz.func99 (by rfl : Tryz.f99.body = some _) ?_
  have hF : Fr [(0, .int .i64 (c : Nat)), (1, .slice (some ⟨pb, 0, none⟩) 1 1)] 30 _ := Fr.start (args := #[.int .i64 (c : Nat), .slice (some ⟨pb, 0, none⟩) 1 1]) (m := 30) (by simp)
  have hI := Inv.start0 w
  refine wp_seq ?_
  refine sy [] #[va (.pointer none),
      va (.int .i64 0)]
    (fun g1 => [(0, .int .i64 (c : Nat)), (1, .slice (some ⟨pb, 0, none⟩) 1 1), (4, .pointer none), (5, .int .i64 0)]) (fun _ => []) (fun _ => [])
    hF hI trivial (fun g => ⟨pv,
      pv, trivial⟩) ?_
  intro g1 a1 w1 hF hI
  refine wp_seq ?_
  refine sy [] #[va (.int .i64 (c : Nat)),
      .ex [] (fun d => .tuple #[.pointer (some ⟨d.n 0, 0, none⟩), .int .i64 0]) (fun _ d => fun w => FirstB w (d.n 0) (d.n 1) (d.n 2) (d.n 3) (d.n 4) (d.n 5) c),
      .val [1] (fun l => .tuple #[pt ((l.getD 0 dat0).n 0), .int .i64 0]),
      .val [1] (fun l => pt ((l.getD 0 dat0).n 0)),
      va (.int .i64 0),
      .val [1] (fun l => pt ((l.getD 0 dat0).n 0)),
      va (.int .i64 0)]
    (fun g2 => [(1, .slice (some ⟨pb, 0, none⟩) 1 1), (4, .pointer none), (5, .int .i64 0), (6, pt ((g2.δ 1).n 0)), (7, .int .i64 0)]) (fun _ => []) (fun g2 => [fun w => FirstB w ((g2.δ 1).n 0) ((g2.δ 1).n 1) ((g2.δ 1).n 2) ((g2.δ 1).n 3) ((g2.δ 1).n 4) ((g2.δ 1).n 5) c])
    hF hI trivial (fun g => ⟨pv,
      cx (fun l d w w1 hg h => FirstB.grow hg rfl rfl rfl rfl rfl h) fun w hI hfa => curve1_any c h1 h3,
      pv,
      pv,
      pv,
      pv,
      pv, trivial⟩) ?_
  intro g2 a2 w2 hF hI
  refine wp_seq ?_
  refine wp_seq ?_
  refine sy [] #[va (.int .i64 0),
      va (.bool false)]
    (fun g3 => [(1, .slice (some ⟨pb, 0, none⟩) 1 1), (4, .pointer none), (5, .int .i64 0), (6, pt ((g2.δ 1).n 0)), (7, .int .i64 0), (16, .bool false)]) (fun _ => []) (fun _ => [fun w => FirstB w ((g2.δ 1).n 0) ((g2.δ 1).n 1) ((g2.δ 1).n 2) ((g2.δ 1).n 3) ((g2.δ 1).n 4) ((g2.δ 1).n 5) c])
    hF hI ⟨(fun w w1 hg h => FirstB.grow hg rfl rfl rfl rfl rfl h), trivial⟩ (fun g => ⟨pv,
      pv, trivial⟩) ?_
  intro g3 a3 w3 hF hI
  refine wp_cond_false (hF.eval rfl) ?_
  refine wp_skip ?_
  refine wp_seq ?_
  refine wp_seq ?_
  refine sy [] #[va (.slice (some ⟨pb, 0, none⟩) 1 1),
      va (.int .i64 1),
      va (.int .i64 0)]
    (fun g4 => [(4, .pointer none), (5, .int .i64 0), (6, pt ((g2.δ 1).n 0)), (18, .slice (some ⟨pb, 0, none⟩) 1 1), (19, .int .i64 1), (20, .int .i64 0)]) (fun _ => []) (fun _ => [fun w => FirstB w ((g2.δ 1).n 0) ((g2.δ 1).n 1) ((g2.δ 1).n 2) ((g2.δ 1).n 3) ((g2.δ 1).n 4) ((g2.δ 1).n 5) c])
    hF hI ⟨(fun w w1 hg h => FirstB.grow hg rfl rfl rfl rfl rfl h), trivial⟩ (fun g => ⟨pv,
      pv,
      pv, trivial⟩) ?_
  intro g4 a4 w4 hF hI
  refine wp_block ?_
  refine wp_loop_up (fun k a' w' => Fr [(4, .pointer none), (5, .int .i64 0), (6, pt ((g2.δ 1).n 0)), (18, .slice (some ⟨pb, 0, none⟩) 1 1), (19, .int .i64 1), (20, .int .i64 ((k : Nat) : Int))] 30 a' ∧ Inv w.heap.size w [] [fun w => FirstB w ((g2.δ 1).n 0) ((g2.δ 1).n 1) ((g2.δ 1).n 2) ((g2.δ 1).n 3) ((g2.δ 1).n 4) ((g2.δ 1).n 5) c] w') 0 ⟨hF, hI.nil⟩ (fun a8 w8 h => ?_) (fun k a8 w8 hk h => ?_)
  · obtain ⟨hF, hI⟩ := h
    have hF : Fr [(4, .pointer none), (5, .int .i64 0), (6, pt ((g2.δ 1).n 0)), (18, .slice (some ⟨pb, 0, none⟩) 1 1), (19, .int .i64 1), (20, .int .i64 0)] 30 a8 := hF
    refine wp_seq ?_
    refine sy [] #[va (.bool true)]
      (fun g5 => [(4, .pointer none), (5, .int .i64 0), (6, pt ((g2.δ 1).n 0)), (18, .slice (some ⟨pb, 0, none⟩) 1 1), (20, .int .i64 0), (21, .bool true)]) (fun _ => []) (fun _ => [fun w => FirstB w ((g2.δ 1).n 0) ((g2.δ 1).n 1) ((g2.δ 1).n 2) ((g2.δ 1).n 3) ((g2.δ 1).n 4) ((g2.δ 1).n 5) c])
      hF hI ⟨(fun w w1 hg h => FirstB.grow hg rfl rfl rfl rfl rfl h), trivial⟩ (fun g => ⟨pv, trivial⟩) ?_
    intro g5 a5 w5 hF hI
    refine wp_seq ?_
    refine wp_cond_true (hF.eval rfl) ?_
    refine wp_skip ?_
    refine wp_seq ?_
    refine wp_block ?_
    refine wp_seq ?_
    refine sy [26] #[va (pt pb),
      va (.agg ((elC x0 ++ (elC y0 ++ [Value.bool i0]))).toArray),
      .new [] (fun _ => ((Z6 ++ (Z6 ++ [Value.bool false]))).toArray) 26,
      .put 2 [] (fun _ => ((elC x0 ++ (elC y0 ++ [Value.bool i0]))).toArray)]
      (fun g6 => [(4, .pointer none), (5, .int .i64 0), (6, pt ((g2.δ 1).n 0)), (9, pt (g6.γ 2)), (20, .int .i64 0)]) (fun g6 => [((g6.γ 2), (elC x0 ++ (elC y0 ++ [Value.bool i0])), 26)]) (fun _ => [fun w => FirstB w ((g2.δ 1).n 0) ((g2.δ 1).n 1) ((g2.δ 1).n 2) ((g2.δ 1).n 3) ((g2.δ 1).n 4) ((g2.δ 1).n 5) c])
      hF hI ⟨(fun w w1 hg h => FirstB.grow hg rfl rfl rfl rfl rfl h), trivial⟩ (fun g => ⟨pv,
      lO pb 0 hpl hp0 rfl,
      nw,
      po (.agg ((elC x0 ++ (elC y0 ++ [Value.bool i0]))).toArray) ((Z6 ++ (Z6 ++ [Value.bool false]))) rfl, trivial⟩) ?_
    intro g6 a6 w6 hF hI
    refine wp_seq ?_
    refine sy [] #[va (pt ((g2.δ 1).n 0)),
      va (.agg ((elC x0 ++ (elC y0 ++ [Value.bool i0]))).toArray),
      va (.bool false),
      va (.bool true)]
      (fun g7 => [(4, .pointer none), (5, .int .i64 0), (6, pt ((g2.δ 1).n 0)), (20, .int .i64 0), (27, .bool true)]) (fun _ => [((g6.γ 2), (elC x0 ++ (elC y0 ++ [Value.bool i0])), 26)]) (fun _ => [fun w => FirstB w ((g2.δ 1).n 0) ((g2.δ 1).n 1) ((g2.δ 1).n 2) ((g2.δ 1).n 3) ((g2.δ 1).n 4) ((g2.δ 1).n 5) c])
      hF hI ⟨(fun w w1 hg h => FirstB.grow hg rfl rfl rfl rfl rfl h), trivial⟩ (fun g => ⟨pv,
      lk 0 0 rfl rfl,
      cv fun w hI hfa => (e0 ▸ pon_any hx0 hy0 (hI.fact 0 rfl).toC),
      pv, trivial⟩) ?_
    intro g7 a7 w7 hF hI
    refine wp_cond_true (hF.eval rfl) ?_
    refine wp_seq ?_
    refine sy [] #[va (.pointer none),
      va (.int .i64 4)]
      (fun g8 => [(4, .pointer none), (5, .int .i64 4), (6, pt ((g2.δ 1).n 0)), (20, .int .i64 0)]) (fun _ => [((g6.γ 2), (elC x0 ++ (elC y0 ++ [Value.bool i0])), 26)]) (fun _ => [fun w => FirstB w ((g2.δ 1).n 0) ((g2.δ 1).n 1) ((g2.δ 1).n 2) ((g2.δ 1).n 3) ((g2.δ 1).n 4) ((g2.δ 1).n 5) c])
      hF hI ⟨(fun w w1 hg h => FirstB.grow hg rfl rfl rfl rfl rfl h), trivial⟩ (fun g => ⟨pv,
      pv, trivial⟩) ?_
    intro g8 a8 w8 hF hI
    refine wp_ret ?_
    show bodyPost Tryz.prog Tryz.f99 (Ret w (.tuple #[.pointer none, .int .i64 4])) .ret _ _
    exact sym_ret2 rfl hF.df (rv_tmp hF rfl) (rv_tmp hF rfl) ⟨rfl, hI.below⟩
  · omega

set_option maxRecDepth 100000 in
set_option maxHeartbeats 1000000 in
theorem with_2tt {c : Nat} (h1 : 1 ≤ c) (h3 : c ≤ 3) [Pr (prm (2 * c - 1))] {pb : Nat} {x0 y0 : Nat} {i0 : Bool} {x1 y1 : Nat} {i1 : Bool} (hx0 : x0 < B64 ^ 6) (hy0 : y0 < B64 ^ 6) (e0 : p1on (Zm.of (cbN c) : Zm (prm (2 * c - 1))) x0 y0 i0 = true) (hx1 : x1 < B64 ^ 6) (hy1 : y1 < B64 ^ 6) (e1 : p1on (Zm.of (cbN c) : Zm (prm (2 * c - 1))) x1 y1 i1 = true) {w : World} (hpl : pb < w.heap.size) (hp0 : w.rangeAt pb 0 (elC x0 ++ (elC y0 ++ [Value.bool i0]))) (hp1 : w.rangeAt pb 13 (elC x1 ++ (elC y1 ++ [Value.bool i1]))) : Calls Tryz.prog 99 #[.int .i64 (c : Nat), .slice (some ⟨pb, 0, none⟩) 2 2] w (FirstR w c) := by
  refine calls_of_wp Tryz.func99 (by rfl : Tryz.f99.body = some _) ?_
  have hF : Fr [(0, .int .i64 (c : Nat)), (1, .slice (some ⟨pb, 0, none⟩) 2 2)] 30 _ := Fr.start (args := #[.int .i64 (c : Nat), .slice (some ⟨pb, 0, none⟩) 2 2]) (m := 30) (by simp)
  have hI := Inv.start0 w
  refine wp_seq ?_
  refine sy [] #[va (.pointer none),
      va (.int .i64 0)]
    (fun g1 => [(0, .int .i64 (c : Nat)), (1, .slice (some ⟨pb, 0, none⟩) 2 2), (4, .pointer none), (5, .int .i64 0)]) (fun _ => []) (fun _ => [])
    hF hI trivial (fun g => ⟨pv,
      pv, trivial⟩) ?_
  intro g1 a1 w1 hF hI
  refine wp_seq ?_
  refine sy [] #[va (.int .i64 (c : Nat)),
      .ex [] (fun d => .tuple #[.pointer (some ⟨d.n 0, 0, none⟩), .int .i64 0]) (fun _ d => fun w => FirstB w (d.n 0) (d.n 1) (d.n 2) (d.n 3) (d.n 4) (d.n 5) c),
      .val [1] (fun l => .tuple #[pt ((l.getD 0 dat0).n 0), .int .i64 0]),
      .val [1] (fun l => pt ((l.getD 0 dat0).n 0)),
      va (.int .i64 0),
      .val [1] (fun l => pt ((l.getD 0 dat0).n 0)),
      va (.int .i64 0)]
    (fun g2 => [(1, .slice (some ⟨pb, 0, none⟩) 2 2), (4, .pointer none), (5, .int .i64 0), (6, pt ((g2.δ 1).n 0)), (7, .int .i64 0)]) (fun _ => []) (fun g2 => [fun w => FirstB w ((g2.δ 1).n 0) ((g2.δ 1).n 1) ((g2.δ 1).n 2) ((g2.δ 1).n 3) ((g2.δ 1).n 4) ((g2.δ 1).n 5) c])
    hF hI trivial (fun g => ⟨pv,
      cx (fun l d w w1 hg h => FirstB.grow hg rfl rfl rfl rfl rfl h) fun w hI hfa => curve1_any c h1 h3,
      pv,
      pv,
      pv,
      pv,
      pv, trivial⟩) ?_
  intro g2 a2 w2 hF hI
  refine wp_seq ?_
  refine wp_seq ?_
  refine sy [] #[va (.int .i64 0),
      va (.bool false)]
    (fun g3 => [(1, .slice (some ⟨pb, 0, none⟩) 2 2), (4, .pointer none), (5, .int .i64 0), (6, pt ((g2.δ 1).n 0)), (7, .int .i64 0), (16, .bool false)]) (fun _ => []) (fun _ => [fun w => FirstB w ((g2.δ 1).n 0) ((g2.δ 1).n 1) ((g2.δ 1).n 2) ((g2.δ 1).n 3) ((g2.δ 1).n 4) ((g2.δ 1).n 5) c])
    hF hI ⟨(fun w w1 hg h => FirstB.grow hg rfl rfl rfl rfl rfl h), trivial⟩ (fun g => ⟨pv,
      pv, trivial⟩) ?_
  intro g3 a3 w3 hF hI
  refine wp_cond_false (hF.eval rfl) ?_
  refine wp_skip ?_
  refine wp_seq ?_
  refine wp_seq ?_
  refine sy [] #[va (.slice (some ⟨pb, 0, none⟩) 2 2),
      va (.int .i64 2),
      va (.int .i64 0)]
    (fun g4 => [(4, .pointer none), (5, .int .i64 0), (6, pt ((g2.δ 1).n 0)), (18, .slice (some ⟨pb, 0, none⟩) 2 2), (19, .int .i64 2), (20, .int .i64 0)]) (fun _ => []) (fun _ => [fun w => FirstB w ((g2.δ 1).n 0) ((g2.δ 1).n 1) ((g2.δ 1).n 2) ((g2.δ 1).n 3) ((g2.δ 1).n 4) ((g2.δ 1).n 5) c])
    hF hI ⟨(fun w w1 hg h => FirstB.grow hg rfl rfl rfl rfl rfl h), trivial⟩ (fun g => ⟨pv,
      pv,
      pv, trivial⟩) ?_
  intro g4 a4 w4 hF hI
  refine wp_block ?_
  refine wp_loop_up (fun k a' w' => Fr [(4, .pointer none), (5, .int .i64 0), (6, pt ((g2.δ 1).n 0)), (18, .slice (some ⟨pb, 0, none⟩) 2 2), (19, .int .i64 2), (20, .int .i64 ((k : Nat) : Int))] 30 a' ∧ Inv w.heap.size w [] [fun w => FirstB w ((g2.δ 1).n 0) ((g2.δ 1).n 1) ((g2.δ 1).n 2) ((g2.δ 1).n 3) ((g2.δ 1).n 4) ((g2.δ 1).n 5) c] w') 2 ⟨hF, hI.nil⟩ (fun a8 w8 h => ?_) (fun k a8 w8 hk h => ?_)
  · obtain ⟨hF, hI⟩ := h
    have hF : Fr [(4, .pointer none), (5, .int .i64 0), (6, pt ((g2.δ 1).n 0)), (18, .slice (some ⟨pb, 0, none⟩) 2 2), (19, .int .i64 2), (20, .int .i64 2)] 30 a8 := hF
    refine wp_seq ?_
    refine sy [] #[va (.bool false)]
      (fun g5 => [(4, .pointer none), (5, .int .i64 0), (6, pt ((g2.δ 1).n 0)), (18, .slice (some ⟨pb, 0, none⟩) 2 2), (20, .int .i64 2), (21, .bool false)]) (fun _ => []) (fun _ => [fun w => FirstB w ((g2.δ 1).n 0) ((g2.δ 1).n 1) ((g2.δ 1).n 2) ((g2.δ 1).n 3) ((g2.δ 1).n 4) ((g2.δ 1).n 5) c])
      hF hI ⟨(fun w w1 hg h => FirstB.grow hg rfl rfl rfl rfl rfl h), trivial⟩ (fun g => ⟨pv, trivial⟩) ?_
    intro g5 a5 w5 hF hI
    refine wp_seq ?_
    refine wp_cond_false (hF.eval rfl) ?_
    refine wp_exit ?_
    refine wp_seq ?_
    refine sy [] #[va (pt ((g2.δ 1).n 0)),
      va (pt ((g2.δ 1).n 0)),
      va (.int .i64 0)]
      (fun g6 => [(4, pt ((g2.δ 1).n 0)), (5, .int .i64 0)]) (fun _ => []) (fun _ => [fun w => FirstB w ((g2.δ 1).n 0) ((g2.δ 1).n 1) ((g2.δ 1).n 2) ((g2.δ 1).n 3) ((g2.δ 1).n 4) ((g2.δ 1).n 5) c])
      hF hI ⟨(fun w w1 hg h => FirstB.grow hg rfl rfl rfl rfl rfl h), trivial⟩ (fun g => ⟨pv,
      pv,
      pv, trivial⟩) ?_
    intro g6 a6 w6 hF hI
    refine wp_ret ?_
    show bodyPost Tryz.prog Tryz.f99 (FirstR w c) .ret _ _
    exact sym_ret2 rfl hF.df (rv_tmp hF rfl) (rv_tmp hF rfl) ⟨(g2.δ 1), rfl, hI.below, hI.fact 0 rfl⟩
  · obtain ⟨hF, hI⟩ := h
    obtain rfl | rfl : k = 0 ∨ k = 1 := by omega
    · have hF : Fr [(4, .pointer none), (5, .int .i64 0), (6, pt ((g2.δ 1).n 0)), (18, .slice (some ⟨pb, 0, none⟩) 2 2), (19, .int .i64 2), (20, .int .i64 0)] 30 a8 := hF
      refine wp_seq ?_
      refine sy [] #[va (.bool true)]
        (fun g5 => [(4, .pointer none), (5, .int .i64 0), (6, pt ((g2.δ 1).n 0)), (18, .slice (some ⟨pb, 0, none⟩) 2 2), (19, .int .i64 2), (20, .int .i64 0), (21, .bool true)]) (fun _ => []) (fun _ => [fun w => FirstB w ((g2.δ 1).n 0) ((g2.δ 1).n 1) ((g2.δ 1).n 2) ((g2.δ 1).n 3) ((g2.δ 1).n 4) ((g2.δ 1).n 5) c])
        hF hI ⟨(fun w w1 hg h => FirstB.grow hg rfl rfl rfl rfl rfl h), trivial⟩ (fun g => ⟨pv, trivial⟩) ?_
      intro g5 a5 w5 hF hI
      refine wp_seq ?_
      refine wp_cond_true (hF.eval rfl) ?_
      refine wp_skip ?_
      refine wp_seq ?_
      refine wp_block ?_
      refine wp_seq ?_
      refine sy [26] #[va (pt pb),
      va (.agg ((elC x0 ++ (elC y0 ++ [Value.bool i0]))).toArray),
      .new [] (fun _ => ((Z6 ++ (Z6 ++ [Value.bool false]))).toArray) 26,
      .put 2 [] (fun _ => ((elC x0 ++ (elC y0 ++ [Value.bool i0]))).toArray)]
        (fun g6 => [(4, .pointer none), (5, .int .i64 0), (6, pt ((g2.δ 1).n 0)), (9, pt (g6.γ 2)), (18, .slice (some ⟨pb, 0, none⟩) 2 2), (19, .int .i64 2), (20, .int .i64 0)]) (fun g6 => [((g6.γ 2), (elC x0 ++ (elC y0 ++ [Value.bool i0])), 26)]) (fun _ => [fun w => FirstB w ((g2.δ 1).n 0) ((g2.δ 1).n 1) ((g2.δ 1).n 2) ((g2.δ 1).n 3) ((g2.δ 1).n 4) ((g2.δ 1).n 5) c])
        hF hI ⟨(fun w w1 hg h => FirstB.grow hg rfl rfl rfl rfl rfl h), trivial⟩ (fun g => ⟨pv,
      lO pb 0 hpl hp0 rfl,
      nw,
      po (.agg ((elC x0 ++ (elC y0 ++ [Value.bool i0]))).toArray) ((Z6 ++ (Z6 ++ [Value.bool false]))) rfl, trivial⟩) ?_
      intro g6 a6 w6 hF hI
      refine wp_seq ?_
      refine sy [] #[va (pt ((g2.δ 1).n 0)),
      va (.agg ((elC x0 ++ (elC y0 ++ [Value.bool i0]))).toArray),
      va (.bool true),
      va (.bool false)]
        (fun g7 => [(4, .pointer none), (5, .int .i64 0), (6, pt ((g2.δ 1).n 0)), (18, .slice (some ⟨pb, 0, none⟩) 2 2), (19, .int .i64 2), (20, .int .i64 0), (27, .bool false)]) (fun _ => [((g6.γ 2), (elC x0 ++ (elC y0 ++ [Value.bool i0])), 26)]) (fun _ => [fun w => FirstB w ((g2.δ 1).n 0) ((g2.δ 1).n 1) ((g2.δ 1).n 2) ((g2.δ 1).n 3) ((g2.δ 1).n 4) ((g2.δ 1).n 5) c])
        hF hI ⟨(fun w w1 hg h => FirstB.grow hg rfl rfl rfl rfl rfl h), trivial⟩ (fun g => ⟨pv,
      lk 0 0 rfl rfl,
      cv fun w hI hfa => (e0 ▸ pon_any hx0 hy0 (hI.fact 0 rfl).toC),
      pv, trivial⟩) ?_
      intro g7 a7 w7 hF hI
      refine wp_cond_false (hF.eval rfl) ?_
      refine wp_skip ?_
      refine sy [] #[va (.int .i64 1),
      va (.int .i64 1)]
        (fun g8 => [(4, .pointer none), (5, .int .i64 0), (6, pt ((g2.δ 1).n 0)), (18, .slice (some ⟨pb, 0, none⟩) 2 2), (19, .int .i64 2), (20, .int .i64 1)]) (fun _ => [((g6.γ 2), (elC x0 ++ (elC y0 ++ [Value.bool i0])), 26)]) (fun _ => [fun w => FirstB w ((g2.δ 1).n 0) ((g2.δ 1).n 1) ((g2.δ 1).n 2) ((g2.δ 1).n 3) ((g2.δ 1).n 4) ((g2.δ 1).n 5) c])
        hF hI ⟨(fun w w1 hg h => FirstB.grow hg rfl rfl rfl rfl rfl h), trivial⟩ (fun g => ⟨pv,
      pv, trivial⟩) ?_
      intro g8 a8 w8 hF hI
      exact ⟨hF, hI.nil⟩
    · have hF : Fr [(4, .pointer none), (5, .int .i64 0), (6, pt ((g2.δ 1).n 0)), (18, .slice (some ⟨pb, 0, none⟩) 2 2), (19, .int .i64 2), (20, .int .i64 1)] 30 a8 := hF
      refine wp_seq ?_
      refine sy [] #[va (.bool true)]
        (fun g5 => [(4, .pointer none), (5, .int .i64 0), (6, pt ((g2.δ 1).n 0)), (18, .slice (some ⟨pb, 0, none⟩) 2 2), (19, .int .i64 2), (20, .int .i64 1), (21, .bool true)]) (fun _ => []) (fun _ => [fun w => FirstB w ((g2.δ 1).n 0) ((g2.δ 1).n 1) ((g2.δ 1).n 2) ((g2.δ 1).n 3) ((g2.δ 1).n 4) ((g2.δ 1).n 5) c])
        hF hI ⟨(fun w w1 hg h => FirstB.grow hg rfl rfl rfl rfl rfl h), trivial⟩ (fun g => ⟨pv, trivial⟩) ?_
      intro g5 a5 w5 hF hI
      refine wp_seq ?_
      refine wp_cond_true (hF.eval rfl) ?_
      refine wp_skip ?_
      refine wp_seq ?_
      refine wp_block ?_
      refine wp_seq ?_
      refine sy [26] #[va (.pointer (some ⟨pb, 13, none⟩)),
      va (.agg ((elC x1 ++ (elC y1 ++ [Value.bool i1]))).toArray),
      .new [] (fun _ => ((Z6 ++ (Z6 ++ [Value.bool false]))).toArray) 26,
      .put 2 [] (fun _ => ((elC x1 ++ (elC y1 ++ [Value.bool i1]))).toArray)]
        (fun g6 => [(4, .pointer none), (5, .int .i64 0), (6, pt ((g2.δ 1).n 0)), (9, pt (g6.γ 2)), (18, .slice (some ⟨pb, 0, none⟩) 2 2), (19, .int .i64 2), (20, .int .i64 1)]) (fun g6 => [((g6.γ 2), (elC x1 ++ (elC y1 ++ [Value.bool i1])), 26)]) (fun _ => [fun w => FirstB w ((g2.δ 1).n 0) ((g2.δ 1).n 1) ((g2.δ 1).n 2) ((g2.δ 1).n 3) ((g2.δ 1).n 4) ((g2.δ 1).n 5) c])
        hF hI ⟨(fun w w1 hg h => FirstB.grow hg rfl rfl rfl rfl rfl h), trivial⟩ (fun g => ⟨pv,
      lO pb 13 hpl hp1 rfl,
      nw,
      po (.agg ((elC x1 ++ (elC y1 ++ [Value.bool i1]))).toArray) ((Z6 ++ (Z6 ++ [Value.bool false]))) rfl, trivial⟩) ?_
      intro g6 a6 w6 hF hI
      refine wp_seq ?_
      refine sy [] #[va (pt ((g2.δ 1).n 0)),
      va (.agg ((elC x1 ++ (elC y1 ++ [Value.bool i1]))).toArray),
      va (.bool true),
      va (.bool false)]
        (fun g7 => [(4, .pointer none), (5, .int .i64 0), (6, pt ((g2.δ 1).n 0)), (18, .slice (some ⟨pb, 0, none⟩) 2 2), (19, .int .i64 2), (20, .int .i64 1), (27, .bool false)]) (fun _ => [((g6.γ 2), (elC x1 ++ (elC y1 ++ [Value.bool i1])), 26)]) (fun _ => [fun w => FirstB w ((g2.δ 1).n 0) ((g2.δ 1).n 1) ((g2.δ 1).n 2) ((g2.δ 1).n 3) ((g2.δ 1).n 4) ((g2.δ 1).n 5) c])
        hF hI ⟨(fun w w1 hg h => FirstB.grow hg rfl rfl rfl rfl rfl h), trivial⟩ (fun g => ⟨pv,
      lk 0 0 rfl rfl,
      cv fun w hI hfa => (e1 ▸ pon_any hx1 hy1 (hI.fact 0 rfl).toC),
      pv, trivial⟩) ?_
      intro g7 a7 w7 hF hI
      refine wp_cond_false (hF.eval rfl) ?_
      refine wp_skip ?_
      refine sy [] #[va (.int .i64 2),
      va (.int .i64 2)]
        (fun g8 => [(4, .pointer none), (5, .int .i64 0), (6, pt ((g2.δ 1).n 0)), (18, .slice (some ⟨pb, 0, none⟩) 2 2), (19, .int .i64 2), (20, .int .i64 2)]) (fun _ => [((g6.γ 2), (elC x1 ++ (elC y1 ++ [Value.bool i1])), 26)]) (fun _ => [fun w => FirstB w ((g2.δ 1).n 0) ((g2.δ 1).n 1) ((g2.δ 1).n 2) ((g2.δ 1).n 3) ((g2.δ 1).n 4) ((g2.δ 1).n 5) c])
        hF hI ⟨(fun w w1 hg h => FirstB.grow hg rfl rfl rfl rfl rfl h), trivial⟩ (fun g => ⟨pv,
      pv, trivial⟩) ?_
      intro g8 a8 w8 hF hI
      exact ⟨hF, hI.nil⟩

set_option maxRecDepth 100000 in
set_option maxHeartbeats 1000000 in
theorem with_2f {c : Nat} (h1 : 1 ≤ c) (h3 : c ≤ 3) [Pr (prm (2 * c - 1))] {pb : Nat} {x0 y0 : Nat} {i0 : Bool} (hx0 : x0 < B64 ^ 6) (hy0 : y0 < B64 ^ 6) (e0 : p1on (Zm.of (cbN c) : Zm (prm (2 * c - 1))) x0 y0 i0 = false) {w : World} (hpl : pb < w.heap.size) (hp0 : w.rangeAt pb 0 (elC x0 ++ (elC y0 ++ [Value.bool i0]))) : Calls Tryz.prog 99 #[.int .i64 (c : Nat), .slice (some ⟨pb, 0, none⟩) 2 2] w (Ret w (.tuple #[.pointer none, .int .i64 4])) := by
  refine calls_of_wp Tryz.func99 (by rfl : Tryz.f99.body = some _) ?_
  have hF : Fr [(0, .int .i64 (c : Nat)), (1, .slice (some ⟨pb, 0, none⟩) 2 2)] 30 _ := Fr.start (args := #[.int .i64 (c : Nat), .slice (some ⟨pb, 0, none⟩) 2 2]) (m := 30) (by simp)
  have hI := Inv.start0 w
  refine wp_seq ?_
  refine sy [] #[va (.pointer none),
      va (.int .i64 0)]
    (fun g1 => [(0, .int .i64 (c : Nat)), (1, .slice (some ⟨pb, 0, none⟩) 2 2), (4, .pointer none), (5, .int .i64 0)]) (fun _ => []) (fun _ => [])
    hF hI trivial (fun g => ⟨pv,
      pv, trivial⟩) ?_
  intro g1 a1 w1 hF hI
  refine wp_seq ?_
  refine sy [] #[va (.int .i64 (c : Nat)),
      .ex [] (fun d => .tuple #[.pointer (some ⟨d.n 0, 0, none⟩), .int .i64 0]) (fun _ d => fun w => FirstB w (d.n 0) (d.n 1) (d.n 2) (d.n 3) (d.n 4) (d.n 5) c),
      .val [1] (fun l => .tuple #[pt ((l.getD 0 dat0).n 0), .int .i64 0]),
      .val [1] (fun l => pt ((l.getD 0 dat0).n 0)),
      va (.int .i64 0),
      .val [1] (fun l => pt ((l.getD 0 dat0).n 0)),
      va (.int .i64 0)]
    (fun g2 => [(1, .slice (some ⟨pb, 0, none⟩) 2 2), (4, .pointer none), (5, .int .i64 0), (6, pt ((g2.δ 1).n 0)), (7, .int .i64 0)]) (fun _ => []) (fun g2 => [fun w => FirstB w ((g2.δ 1).n 0) ((g2.δ 1).n 1) ((g2.δ 1).n 2) ((g2.δ 1).n 3) ((g2.δ 1).n 4) ((g2.δ 1).n 5) c])
    hF hI trivial (fun g => ⟨pv,
      cx (fun l d w w1 hg h => FirstB.grow hg rfl rfl rfl rfl rfl h) fun w hI hfa => curve1_any c h1 h3,
      pv,
      pv,
      pv,
      pv,
      pv, trivial⟩) ?_
  intro g2 a2 w2 hF hI
  refine wp_seq ?_
  refine wp_seq ?_
  refine sy [] #[va (.int .i64 0),
      va (.bool false)]
    (fun g3 => [(1, .slice (some ⟨pb, 0, none⟩) 2 2), (4, .pointer none), (5, .int .i64 0), (6, pt ((g2.δ 1).n 0)), (7, .int .i64 0), (16, .bool false)]) (fun _ => []) (fun _ => [fun w => FirstB w ((g2.δ 1).n 0) ((g2.δ 1).n 1) ((g2.δ 1).n 2) ((g2.δ 1).n 3) ((g2.δ 1).n 4) ((g2.δ 1).n 5) c])
    hF hI ⟨(fun w w1 hg h => FirstB.grow hg rfl rfl rfl rfl rfl h), trivial⟩ (fun g => ⟨pv,
      pv, trivial⟩) ?_
  intro g3 a3 w3 hF hI
  refine wp_cond_false (hF.eval rfl) ?_
  refine wp_skip ?_
  refine wp_seq ?_
  refine wp_seq ?_
  refine sy [] #[va (.slice (some ⟨pb, 0, none⟩) 2 2),
      va (.int .i64 2),
      va (.int .i64 0)]
    (fun g4 => [(4, .pointer none), (5, .int .i64 0), (6, pt ((g2.δ 1).n 0)), (18, .slice (some ⟨pb, 0, none⟩) 2 2), (19, .int .i64 2), (20, .int .i64 0)]) (fun _ => []) (fun _ => [fun w => FirstB w ((g2.δ 1).n 0) ((g2.δ 1).n 1) ((g2.δ 1).n 2) ((g2.δ 1).n 3) ((g2.δ 1).n 4) ((g2.δ 1).n 5) c])
    hF hI ⟨(fun w w1 hg h => FirstB.grow hg rfl rfl rfl rfl rfl h), trivial⟩ (fun g => ⟨pv,
      pv,
      pv, trivial⟩) ?_
  intro g4 a4 w4 hF hI
  refine wp_block ?_
  refine wp_loop_up (fun k a' w' => Fr [(4, .pointer none), (5, .int .i64 0), (6, pt ((g2.δ 1).n 0)), (18, .slice (some ⟨pb, 0, none⟩) 2 2), (19, .int .i64 2), (20, .int .i64 ((k : Nat) : Int))] 30 a' ∧ Inv w.heap.size w [] [fun w => FirstB w ((g2.δ 1).n 0) ((g2.δ 1).n 1) ((g2.δ 1).n 2) ((g2.δ 1).n 3) ((g2.δ 1).n 4) ((g2.δ 1).n 5) c] w') 0 ⟨hF, hI.nil⟩ (fun a8 w8 h => ?_) (fun k a8 w8 hk h => ?_)
  · obtain ⟨hF, hI⟩ := h
    have hF : Fr [(4, .pointer none), (5, .int .i64 0), (6, pt ((g2.δ 1).n 0)), (18, .slice (some ⟨pb, 0, none⟩) 2 2), (19, .int .i64 2), (20, .int .i64 0)] 30 a8 := hF
    refine wp_seq ?_
    refine sy [] #[va (.bool true)]
      (fun g5 => [(4, .pointer none), (5, .int .i64 0), (6, pt ((g2.δ 1).n 0)), (18, .slice (some ⟨pb, 0, none⟩) 2 2), (20, .int .i64 0), (21, .bool true)]) (fun _ => []) (fun _ => [fun w => FirstB w ((g2.δ 1).n 0) ((g2.δ 1).n 1) ((g2.δ 1).n 2) ((g2.δ 1).n 3) ((g2.δ 1).n 4) ((g2.δ 1).n 5) c])
      hF hI ⟨(fun w w1 hg h => FirstB.grow hg rfl rfl rfl rfl rfl h), trivial⟩ (fun g => ⟨pv, trivial⟩) ?_
    intro g5 a5 w5 hF hI
    refine wp_seq ?_
    refine wp_cond_true (hF.eval rfl) ?_
    refine wp_skip ?_
    refine wp_seq ?_
    refine wp_block ?_
    refine wp_seq ?_
    refine sy [26] #[va (pt pb),
      va (.agg ((elC x0 ++ (elC y0 ++ [Value.bool i0]))).toArray),
      .new [] (fun _ => ((Z6 ++ (Z6 ++ [Value.bool false]))).toArray) 26,
      .put 2 [] (fun _ => ((elC x0 ++ (elC y0 ++ [Value.bool i0]))).toArray)]
      (fun g6 => [(4, .pointer none), (5, .int .i64 0), (6, pt ((g2.δ 1).n 0)), (9, pt (g6.γ 2)), (20, .int .i64 0)]) (fun g6 => [((g6.γ 2), (elC x0 ++ (elC y0 ++ [Value.bool i0])), 26)]) (fun _ => [fun w => FirstB w ((g2.δ 1).n 0) ((g2.δ 1).n 1) ((g2.δ 1).n 2) ((g2.δ 1).n 3) ((g2.δ 1).n 4) ((g2.δ 1).n 5) c])
      hF hI ⟨(fun w w1 hg h => FirstB.grow hg rfl rfl rfl rfl rfl h), trivial⟩ (fun g => ⟨pv,
      lO pb 0 hpl hp0 rfl,
      nw,
      po (.agg ((elC x0 ++ (elC y0 ++ [Value.bool i0]))).toArray) ((Z6 ++ (Z6 ++ [Value.bool false]))) rfl, trivial⟩) ?_
    intro g6 a6 w6 hF hI
    refine wp_seq ?_
    refine sy [] #[va (pt ((g2.δ 1).n 0)),
      va (.agg ((elC x0 ++ (elC y0 ++ [Value.bool i0]))).toArray),
      va (.bool false),
      va (.bool true)]
      (fun g7 => [(4, .pointer none), (5, .int .i64 0), (6, pt ((g2.δ 1).n 0)), (20, .int .i64 0), (27, .bool true)]) (fun _ => [((g6.γ 2), (elC x0 ++ (elC y0 ++ [Value.bool i0])), 26)]) (fun _ => [fun w => FirstB w ((g2.δ 1).n 0) ((g2.δ 1).n 1) ((g2.δ 1).n 2) ((g2.δ 1).n 3) ((g2.δ 1).n 4) ((g2.δ 1).n 5) c])
      hF hI ⟨(fun w w1 hg h => FirstB.grow hg rfl rfl rfl rfl rfl h), trivial⟩ (fun g => ⟨pv,
      lk 0 0 rfl rfl,
      cv fun w hI hfa => (e0 ▸ pon_any hx0 hy0 (hI.fact 0 rfl).toC),
      pv, trivial⟩) ?_
    intro g7 a7 w7 hF hI
    refine wp_cond_true (hF.eval rfl) ?_
    refine wp_seq ?_
    refine sy [] #[va (.pointer none),
      va (.int .i64 4)]
      (fun g8 => [(4, .pointer none), (5, .int .i64 4), (6, pt ((g2.δ 1).n 0)), (20, .int .i64 0)]) (fun _ => [((g6.γ 2), (elC x0 ++ (elC y0 ++ [Value.bool i0])), 26)]) (fun _ => [fun w => FirstB w ((g2.δ 1).n 0) ((g2.δ 1).n 1) ((g2.δ 1).n 2) ((g2.δ 1).n 3) ((g2.δ 1).n 4) ((g2.δ 1).n 5) c])
      hF hI ⟨(fun w w1 hg h => FirstB.grow hg rfl rfl rfl rfl rfl h), trivial⟩ (fun g => ⟨pv,
      pv, trivial⟩) ?_
    intro g8 a8 w8 hF hI
    refine wp_ret ?_
    show bodyPost Tryz.prog Tryz.f99 (Ret w (.tuple #[.pointer none, .int .i64 4])) .ret _ _
    exact sym_ret2 rfl hF.df (rv_tmp hF rfl) (rv_tmp hF rfl) ⟨rfl, hI.below⟩
  · omega

set_option maxRecDepth 100000 in
set_option maxHeartbeats 1000000 in
theorem with_2tf {c : Nat} (h1 : 1 ≤ c) (h3 : c ≤ 3) [Pr (prm (2 * c - 1))] {pb : Nat} {x0 y0 : Nat} {i0 : Bool} {x1 y1 : Nat} {i1 : Bool} (hx0 : x0 < B64 ^ 6) (hy0 : y0 < B64 ^ 6) (e0 : p1on (Zm.of (cbN c) : Zm (prm (2 * c - 1))) x0 y0 i0 = true) (hx1 : x1 < B64 ^ 6) (hy1 : y1 < B64 ^ 6) (e1 : p1on (Zm.of (cbN c) : Zm (prm (2 * c - 1))) x1 y1 i1 = false) {w : World} (hpl : pb < w.heap.size) (hp0 : w.rangeAt pb 0 (elC x0 ++ (elC y0 ++ [Value.bool i0]))) (hp1 : w.rangeAt pb 13 (elC x1 ++ (elC y1 ++ [Value.bool i1]))) : Calls Tryz.prog 99 #[.int .i64 (c : Nat), .slice (some ⟨pb, 0, none⟩) 2 2] w (Ret w (.tuple #[.pointer none, .int .i64 4])) := by
  refine calls_of_wp Tryz.func99 (by rfl : Tryz.f99.body = some _) ?_
  have hF : Fr [(0, .int .i64 (c : Nat)), (1, .slice (some ⟨pb, 0, none⟩) 2 2)] 30 _ := Fr.start (args := #[.int .i64 (c : Nat), .slice (some ⟨pb, 0, none⟩) 2 2]) (m := 30) (by simp)
  have hI := Inv.start0 w
  refine wp_seq ?_
  refine sy [] #[va (.pointer none),
      va (.int .i64 0)]
    (fun g1 => [(0, .int .i64 (c : Nat)), (1, .slice (some ⟨pb, 0, none⟩) 2 2), (4, .pointer none), (5, .int .i64 0)]) (fun _ => []) (fun _ => [])
    hF hI trivial (fun g => ⟨pv,
      pv, trivial⟩) ?_
  intro g1 a1 w1 hF hI
  refine wp_seq ?_
  refine sy [] #[va (.int .i64 (c : Nat)),
      .ex [] (fun d => .tuple #[.pointer (some ⟨d.n 0, 0, none⟩), .int .i64 0]) (fun _ d => fun w => FirstB w (d.n 0) (d.n 1) (d.n 2) (d.n 3) (d.n 4) (d.n 5) c),
      .val [1] (fun l => .tuple #[pt ((l.getD 0 dat0).n 0), .int .i64 0]),
      .val [1] (fun l => pt ((l.getD 0 dat0).n 0)),
      va (.int .i64 0),
      .val [1] (fun l => pt ((l.getD 0 dat0).n 0)),
      va (.int .i64 0)]
    (fun g2 => [(1, .slice (some ⟨pb, 0, none⟩) 2 2), (4, .pointer none), (5, .int .i64 0), (6, pt ((g2.δ 1).n 0)), (7, .int .i64 0)]) (fun _ => []) (fun g2 => [fun w => FirstB w ((g2.δ 1).n 0) ((g2.δ 1).n 1) ((g2.δ 1).n 2) ((g2.δ 1).n 3) ((g2.δ 1).n 4) ((g2.δ 1).n 5) c])
    hF hI trivial (fun g => ⟨pv,
      cx (fun l d w w1 hg h => FirstB.grow hg rfl rfl rfl rfl rfl h) fun w hI hfa => curve1_any c h1 h3,
      pv,
      pv,
      pv,
      pv,
      pv, trivial⟩) ?_
  intro g2 a2 w2 hF hI
  refine wp_seq ?_
  refine wp_seq ?_
  refine sy [] #[va (.int .i64 0),
      va (.bool false)]
    (fun g3 => [(1, .slice (some ⟨pb, 0, none⟩) 2 2), (4, .pointer none), (5, .int .i64 0), (6, pt ((g2.δ 1).n 0)), (7, .int .i64 0), (16, .bool false)]) (fun _ => []) (fun _ => [fun w => FirstB w ((g2.δ 1).n 0) ((g2.δ 1).n 1) ((g2.δ 1).n 2) ((g2.δ 1).n 3) ((g2.δ 1).n 4) ((g2.δ 1).n 5) c])
    hF hI ⟨(fun w w1 hg h => FirstB.grow hg rfl rfl rfl rfl rfl h), trivial⟩ (fun g => ⟨pv,
      pv, trivial⟩) ?_
  intro g3 a3 w3 hF hI
  refine wp_cond_false (hF.eval rfl) ?_
  refine wp_skip ?_
  refine wp_seq ?_
  refine wp_seq ?_
  refine sy [] #[va (.slice (some ⟨pb, 0, none⟩) 2 2),
      va (.int .i64 2),
      va (.int .i64 0)]
    (fun g4 => [(4, .pointer none), (5, .int .i64 0), (6, pt ((g2.δ 1).n 0)), (18, .slice (some ⟨pb, 0, none⟩) 2 2), (19, .int .i64 2), (20, .int .i64 0)]) (fun _ => []) (fun _ => [fun w => FirstB w ((g2.δ 1).n 0) ((g2.δ 1).n 1) ((g2.δ 1).n 2) ((g2.δ 1).n 3) ((g2.δ 1).n 4) ((g2.δ 1).n 5) c])
    hF hI ⟨(fun w w1 hg h => FirstB.grow hg rfl rfl rfl rfl rfl h), trivial⟩ (fun g => ⟨pv,
      pv,
      pv, trivial⟩) ?_
  intro g4 a4 w4 hF hI
  refine wp_block ?_
  refine wp_loop_up (fun k a' w' => Fr [(4, .pointer none), (5, .int .i64 0), (6, pt ((g2.δ 1).n 0)), (18, .slice (some ⟨pb, 0, none⟩) 2 2), (19, .int .i64 2), (20, .int .i64 ((k : Nat) : Int))] 30 a' ∧ Inv w.heap.size w [] [fun w => FirstB w ((g2.δ 1).n 0) ((g2.δ 1).n 1) ((g2.δ 1).n 2) ((g2.δ 1).n 3) ((g2.δ 1).n 4) ((g2.δ 1).n 5) c] w') 1 ⟨hF, hI.nil⟩ (fun a8 w8 h => ?_) (fun k a8 w8 hk h => ?_)
  · obtain ⟨hF, hI⟩ := h
    have hF : Fr [(4, .pointer none), (5, .int .i64 0), (6, pt ((g2.δ 1).n 0)), (18, .slice (some ⟨pb, 0, none⟩) 2 2), (19, .int .i64 2), (20, .int .i64 1)] 30 a8 := hF
    refine wp_seq ?_
    refine sy [] #[va (.bool true)]
      (fun g5 => [(4, .pointer none), (5, .int .i64 0), (6, pt ((g2.δ 1).n 0)), (18, .slice (some ⟨pb, 0, none⟩) 2 2), (20, .int .i64 1), (21, .bool true)]) (fun _ => []) (fun _ => [fun w => FirstB w ((g2.δ 1).n 0) ((g2.δ 1).n 1) ((g2.δ 1).n 2) ((g2.δ 1).n 3) ((g2.δ 1).n 4) ((g2.δ 1).n 5) c])
      hF hI ⟨(fun w w1 hg h => FirstB.grow hg rfl rfl rfl rfl rfl h), trivial⟩ (fun g => ⟨pv, trivial⟩) ?_
    intro g5 a5 w5 hF hI
    refine wp_seq ?_
    refine wp_cond_true (hF.eval rfl) ?_
    refine wp_skip ?_
    refine wp_seq ?_
    refine wp_block ?_
    refine wp_seq ?_
    refine sy [26] #[va (.pointer (some ⟨pb, 13, none⟩)),
      va (.agg ((elC x1 ++ (elC y1 ++ [Value.bool i1]))).toArray),
      .new [] (fun _ => ((Z6 ++ (Z6 ++ [Value.bool false]))).toArray) 26,
      .put 2 [] (fun _ => ((elC x1 ++ (elC y1 ++ [Value.bool i1]))).toArray)]
      (fun g6 => [(4, .pointer none), (5, .int .i64 0), (6, pt ((g2.δ 1).n 0)), (9, pt (g6.γ 2)), (20, .int .i64 1)]) (fun g6 => [((g6.γ 2), (elC x1 ++ (elC y1 ++ [Value.bool i1])), 26)]) (fun _ => [fun w => FirstB w ((g2.δ 1).n 0) ((g2.δ 1).n 1) ((g2.δ 1).n 2) ((g2.δ 1).n 3) ((g2.δ 1).n 4) ((g2.δ 1).n 5) c])
      hF hI ⟨(fun w w1 hg h => FirstB.grow hg rfl rfl rfl rfl rfl h), trivial⟩ (fun g => ⟨pv,
      lO pb 13 hpl hp1 rfl,
      nw,
      po (.agg ((elC x1 ++ (elC y1 ++ [Value.bool i1]))).toArray) ((Z6 ++ (Z6 ++ [Value.bool false]))) rfl, trivial⟩) ?_
    intro g6 a6 w6 hF hI
    refine wp_seq ?_
    refine sy [] #[va (pt ((g2.δ 1).n 0)),
      va (.agg ((elC x1 ++ (elC y1 ++ [Value.bool i1]))).toArray),
      va (.bool false),
      va (.bool true)]
      (fun g7 => [(4, .pointer none), (5, .int .i64 0), (6, pt ((g2.δ 1).n 0)), (20, .int .i64 1), (27, .bool true)]) (fun _ => [((g6.γ 2), (elC x1 ++ (elC y1 ++ [Value.bool i1])), 26)]) (fun _ => [fun w => FirstB w ((g2.δ 1).n 0) ((g2.δ 1).n 1) ((g2.δ 1).n 2) ((g2.δ 1).n 3) ((g2.δ 1).n 4) ((g2.δ 1).n 5) c])
      hF hI ⟨(fun w w1 hg h => FirstB.grow hg rfl rfl rfl rfl rfl h), trivial⟩ (fun g => ⟨pv,
      lk 0 0 rfl rfl,
      cv fun w hI hfa => (e1 ▸ pon_any hx1 hy1 (hI.fact 0 rfl).toC),
      pv, trivial⟩) ?_
    intro g7 a7 w7 hF hI
    refine wp_cond_true (hF.eval rfl) ?_
    refine wp_seq ?_
    refine sy [] #[va (.pointer none),
      va (.int .i64 4)]
      (fun g8 => [(4, .pointer none), (5, .int .i64 4), (6, pt ((g2.δ 1).n 0)), (20, .int .i64 1)]) (fun _ => [((g6.γ 2), (elC x1 ++ (elC y1 ++ [Value.bool i1])), 26)]) (fun _ => [fun w => FirstB w ((g2.δ 1).n 0) ((g2.δ 1).n 1) ((g2.δ 1).n 2) ((g2.δ 1).n 3) ((g2.δ 1).n 4) ((g2.δ 1).n 5) c])
      hF hI ⟨(fun w w1 hg h => FirstB.grow hg rfl rfl rfl rfl rfl h), trivial⟩ (fun g => ⟨pv,
      pv, trivial⟩) ?_
    intro g8 a8 w8 hF hI
    refine wp_ret ?_
    show bodyPost Tryz.prog Tryz.f99 (Ret w (.tuple #[.pointer none, .int .i64 4])) .ret _ _
    exact sym_ret2 rfl hF.df (rv_tmp hF rfl) (rv_tmp hF rfl) ⟨rfl, hI.below⟩
  · obtain ⟨hF, hI⟩ := h
    obtain rfl : k = 0 := by omega
    · have hF : Fr [(4, .pointer none), (5, .int .i64 0), (6, pt ((g2.δ 1).n 0)), (18, .slice (some ⟨pb, 0, none⟩) 2 2), (19, .int .i64 2), (20, .int .i64 0)] 30 a8 := hF
      refine wp_seq ?_
      refine sy [] #[va (.bool true)]
        (fun g5 => [(4, .pointer none), (5, .int .i64 0), (6, pt ((g2.δ 1).n 0)), (18, .slice (some ⟨pb, 0, none⟩) 2 2), (19, .int .i64 2), (20, .int .i64 0), (21, .bool true)]) (fun _ => []) (fun _ => [fun w => FirstB w ((g2.δ 1).n 0) ((g2.δ 1).n 1) ((g2.δ 1).n 2) ((g2.δ 1).n 3) ((g2.δ 1).n 4) ((g2.δ 1).n 5) c])
        hF hI ⟨(fun w w1 hg h => FirstB.grow hg rfl rfl rfl rfl rfl h), trivial⟩ (fun g => ⟨pv, trivial⟩) ?_
      intro g5 a5 w5 hF hI
      refine wp_seq ?_
      refine wp_cond_true (hF.eval rfl) ?_
      refine wp_skip ?_
      refine wp_seq ?_
      refine wp_block ?_
      refine wp_seq ?_
      refine sy [26] #[va (pt pb),
      va (.agg ((elC x0 ++ (elC y0 ++ [Value.bool i0]))).toArray),
      .new [] (fun _ => ((Z6 ++ (Z6 ++ [Value.bool false]))).toArray) 26,
      .put 2 [] (fun _ => ((elC x0 ++ (elC y0 ++ [Value.bool i0]))).toArray)]
        (fun g6 => [(4, .pointer none), (5, .int .i64 0), (6, pt ((g2.δ 1).n 0)), (9, pt (g6.γ 2)), (18, .slice (some ⟨pb, 0, none⟩) 2 2), (19, .int .i64 2), (20, .int .i64 0)]) (fun g6 => [((g6.γ 2), (elC x0 ++ (elC y0 ++ [Value.bool i0])), 26)]) (fun _ => [fun w => FirstB w ((g2.δ 1).n 0) ((g2.δ 1).n 1) ((g2.δ 1).n 2) ((g2.δ 1).n 3) ((g2.δ 1).n 4) ((g2.δ 1).n 5) c])
        hF hI ⟨(fun w w1 hg h => FirstB.grow hg rfl rfl rfl rfl rfl h), trivial⟩ (fun g => ⟨pv,
      lO pb 0 hpl hp0 rfl,
      nw,
      po (.agg ((elC x0 ++ (elC y0 ++ [Value.bool i0]))).toArray) ((Z6 ++ (Z6 ++ [Value.bool false]))) rfl, trivial⟩) ?_
      intro g6 a6 w6 hF hI
      refine wp_seq ?_
      refine sy [] #[va (pt ((g2.δ 1).n 0)),
      va (.agg ((elC x0 ++ (elC y0 ++ [Value.bool i0]))).toArray),
      va (.bool true),
      va (.bool false)]
        (fun g7 => [(4, .pointer none), (5, .int .i64 0), (6, pt ((g2.δ 1).n 0)), (18, .slice (some ⟨pb, 0, none⟩) 2 2), (19, .int .i64 2), (20, .int .i64 0), (27, .bool false)]) (fun _ => [((g6.γ 2), (elC x0 ++ (elC y0 ++ [Value.bool i0])), 26)]) (fun _ => [fun w => FirstB w ((g2.δ 1).n 0) ((g2.δ 1).n 1) ((g2.δ 1).n 2) ((g2.δ 1).n 3) ((g2.δ 1).n 4) ((g2.δ 1).n 5) c])
        hF hI ⟨(fun w w1 hg h => FirstB.grow hg rfl rfl rfl rfl rfl h), trivial⟩ (fun g => ⟨pv,
      lk 0 0 rfl rfl,
      cv fun w hI hfa => (e0 ▸ pon_any hx0 hy0 (hI.fact 0 rfl).toC),
      pv, trivial⟩) ?_
      intro g7 a7 w7 hF hI
      refine wp_cond_false (hF.eval rfl) ?_
      refine wp_skip ?_
      refine sy [] #[va (.int .i64 1),
      va (.int .i64 1)]
        (fun g8 => [(4, .pointer none), (5, .int .i64 0), (6, pt ((g2.δ 1).n 0)), (18, .slice (some ⟨pb, 0, none⟩) 2 2), (19, .int .i64 2), (20, .int .i64 1)]) (fun _ => [((g6.γ 2), (elC x0 ++ (elC y0 ++ [Value.bool i0])), 26)]) (fun _ => [fun w => FirstB w ((g2.δ 1).n 0) ((g2.δ 1).n 1) ((g2.δ 1).n 2) ((g2.δ 1).n 3) ((g2.δ 1).n 4) ((g2.δ 1).n 5) c])
        hF hI ⟨(fun w w1 hg h => FirstB.grow hg rfl rfl rfl rfl rfl h), trivial⟩ (fun g => ⟨pv,
      pv, trivial⟩) ?_
      intro g8 a8 w8 hF hI
      exact ⟨hF, hI.nil⟩

end Go.Proofs.YtjokcbjahidckaaGreat
